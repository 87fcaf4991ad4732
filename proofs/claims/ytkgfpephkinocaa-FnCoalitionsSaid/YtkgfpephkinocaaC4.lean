/- the law of the coalitions -/
import Derived.Test.YtkgfpephkinocaaC3
import Derived.Test.YtkgfpephkinocaaUsd
set_option linter.unusedVariables false
set_option linter.unusedSimpArgs false
namespace Go.Proofs.Ytkgfpephkinocaa
open Go.AG

@[go_sem] theorem lap_nil {α : Type} (ys : List α) : List.append [] ys = ys := rfl
@[go_sem] theorem lap_cons {α : Type} (x : α) (xs ys : List α) : List.append (x :: xs) ys = x :: List.append xs ys := rfl
/-- some row before the i-th lies within D -/
def wiB (L : List (List Int)) (D : List Int) (i : Nat) : Bool := (List.range i).any fun j => (gr L j).all fun y => decide (y ∈ D)
theorem wiB_succ (L : List (List Int)) (D : List Int) (i : Nat) : wiB L D (i + 1) = (wiB L D i || (gr L i).all fun y => decide (y ∈ D)) := by simp [wiB, List.range_succ]
def usL (L : List (List Int)) (i : Nat) : List Int := (L.take i).flatten
theorem usL_succ (L : List (List Int)) (i : Nat) (h : i < L.length) : usL L (i + 1) = usL L i ++ gr L i := by
  have e : gr L i = L[i] := by simp [gr, h]
  unfold usL
  rw [List.take_succ_eq_append_getElem h, List.flatten_append, e]; simp
theorem allD_snoc (row D : List Int) (k : Nat) (h : k < row.length) : ((row.take (k + 1)).all fun y => decide (y ∈ D)) = (((row.take k).all fun y => decide (y ∈ D)) && decide (gi row k ∈ D)) := by
  rw [take_succ_gi row k h, List.all_append]; simp
theorem wiB_iff (L : List (List Int)) (D : List Int) : wiB L D L.length = true ↔ ∃ s ∈ L, ∀ y ∈ s, y ∈ D := by
  unfold wiB
  rw [List.any_eq_true]
  constructor
  · rintro ⟨j, hj, h⟩
    have hj : j < L.length := by simpa using hj
    exact ⟨gr L j, gr_memI L j hj, fun y hy => by simpa using List.all_eq_true.1 h y hy⟩
  · rintro ⟨s, hs, h⟩
    obtain ⟨j, hj, e⟩ := List.mem_iff_getElem.1 hs
    refine ⟨j, by simpa using hj, List.all_eq_true.2 fun y hy => ?_⟩
    rw [show gr L j = s by simp [gr, hj, e]] at hy
    simpa using h y hy
theorem usL_mem (L : List (List Int)) (y : Int) : y ∈ usL L L.length ↔ ∃ s ∈ L, y ∈ s := by
  unfold usL
  rw [List.take_length, List.mem_flatten]
theorem ris_of {xs : List Int} {n : Int} (h : riS xs n) : risesB xs 0 (n - 1) = true := by
  refine decide_eq_true fun j hj => ?_
  obtain ⟨h1, h2⟩ := h j hj
  refine rok_yes xs 0 (n - 1) j (by omega) ?_
  by_cases e : j = 0
  · left; omega
  · right
    rw [show ((j : Int) - 1).toNat = j - 1 by omega]
    exact h2 (by omega)
structure RowOk (xs row : List Int) : Prop where
  l8 : row.length ≤ 8
  ri : riS row xs.length
  ir : inR xs row
  bd : 0 ≤ mand xs row ∧ mand xs row ≤ 480
  wn : wsum xs < 2 * mand xs row
  cr : ∀ k, k < row.length → 2 * (mand xs row - gi xs (gi row k).toNat) ≤ wsum xs
theorem RowOk.of {xs row : List Int} (g : Cx xs) (h : row ∈ LC xs) : RowOk xs row := by
  obtain ⟨f, rfl, hw, hm⟩ := (mem_LC g).1 h
  have hb := sF_bd g f xs.length
  have h8 := g.n8
  have hl := sel_len xs.length f
  refine ⟨by rw [nI_len]; omega, sel_ri _ _, sel_inR _ _, by rw [mand_sel g]; omega, by rw [mand_sel g]; exact hw, fun k hk => ?_⟩
  rw [nI_len] at hk
  have h1 := mem_sel.1 (List.getElem_mem hk)
  rw [mand_sel g, nI_get _ _ hk, Int.toNat_natCast]
  exact hm _ h1.1 h1.2
/-- what the law's walk uses, in one place -/
structure CoF (code more xs D best sws : List Int) (LL : List (List Int)) (few P W : Int) (isB : Bool) : Prop where
  has : ACalls Try.prog 10 [.sl code.length (bts code)] [] (fun r o => r = .ref 0 0 xs.length ∧ o = [oI xs])
  le : ACalls Try.prog 11 [.sl xs.length (ints xs)] [] (fun r o => r = .tup [.ref 0 0 LL.length, I 0] ∧ o = [some ⟨1, rws LL⟩])
  sw : ACalls Try.prog 12 [.sl xs.length (ints xs)] [] (fun r o => r = .tup [.ref 0 0 xs.length, I 0] ∧ o = [oI sws])
  cl : ACalls Try.prog 13 [.sl xs.length (ints xs)] [] (fun r o => r = .tup [.sl best.length (ints best), I few, I 0] ∧ o = [])
  par : ACalls Try.prog 14 [.sl more.length (bts more), I xs.length] [] (fun r o => r = .ref 0 0 D.length ∧ o = [oI D])
  mm : ACalls Try.prog 15 [.sl xs.length (ints xs), .sl D.length (ints D)] [] (fun r o => r = .tup [B isB, I 0] ∧ o = [])
  sum : ACalls Try.prog 16 [.sl xs.length (ints xs)] [] (fun r o => r = I W ∧ o = [])
  ri : ACalls Try.prog 17 [.sl best.length (ints best), I xs.length] [] (fun r o => r = B true ∧ o = [])
  pb : ACalls Try.prog 18 [.sl xs.length (ints xs), .sl best.length (ints best)] [] (fun r o => r = I few ∧ o = [])
  pd : ACalls Try.prog 18 [.sl xs.length (ints xs), .sl D.length (ints D)] [] (fun r o => r = I P ∧ o = [])
  ah : ∀ y, ACalls Try.prog 19 [.sl D.length (ints D), I y] [] (fun r o => r = B (decide (y ∈ D)) ∧ o = [])
  isE : isB = decide (W < 2 * P)
  n8 : xs.length ≤ 8
  swl : sws.length = xs.length
  L1 : 1 ≤ LL.length ∧ LL.length ≤ 256
  Pb : 0 ≤ P ∧ P ≤ 480
  fb : 0 ≤ few ∧ few ≤ 480
  W2 : W < 2 * few
  Wb : 1 ≤ W ∧ W ≤ 8000000
  eW : W = wsum xs
  le2 : W < 2 * P → few ≤ P
  gb : ∀ i, 0 ≤ gi xs i ∧ gi xs i ≤ 60
  rows : ∀ i, i < LL.length → RowOk xs (gr LL i)
  swi : ∀ i, i < xs.length → 0 ≤ gi sws i ∧ (0 < gi sws i ↔ (i : Int) ∈ usL LL LL.length)
  win : wiB LL D LL.length = isB
theorem coF_ok (code more : List Int) (hb1 : bOk code) (hb2 : bOk more) (hc1 : code.length ≤ 10000000) (hc2 : more.length ≤ 10000000) : ∃ xs D best sws LL few P W isB, CoF code more xs D best sws LL few P W isB := by
  have hhas := a2HasD_ok code hb1 hc1
  have hok := haL_ok hb1
  have g := Cx.of hok
  obtain ⟨xs, hxs⟩ : ∃ xs, xs = haL code := ⟨_, rfl⟩
  rw [← hxs] at hhas hok g
  have g8 := g.n8
  have g1 := g.n1
  have gp := g.pos
  have hpar := a2Parties_ok more xs.length g8 hb2 hc2
  have hD := within_ok g (paD more)
  have hDr : inR xs (nI (sel xs.length (paD more))) := sel_inR xs (paD more)
  have hDl : (nI (sel xs.length (paD more))).length ≤ 8 := by rw [nI_len]; exact Nat.le_trans (sel_len _ _) g8
  have hDw := wn_sel g (paD more)
  have hDri := sel_ri xs.length (paD more)
  have hDm := mand_sel g (paD more)
  have hDb := sF_bd g (paD more) xs.length
  obtain ⟨bf, hbe, hbw, hbv, hbm⟩ := CL_ok g
  have hbD := hbm (paD more)
  obtain ⟨D, hDe⟩ : ∃ D, D = nI (sel xs.length (paD more)) := ⟨_, rfl⟩
  rw [← hDe] at hpar hDr hDl hDw hDri hDm hD
  rw [← hDm] at hDb hbD
  have hle := least_ok xs hok
  have hsw := swing_ok xs (by omega)
  have hcl := closest_ok xs hok
  have hmm := hm_ok xs D (by omega) (by omega)
  have hsum := a2Sum_ok xs (by omega)
  have hbest : (CL xs).1.length ≤ 8 := by rw [hbe, nI_len]; exact Nat.le_trans (sel_len _ _) g8
  have hri := a2Rises_ok (CL xs).1 xs.length (by omega) (by rw [hbe]; exact sel_ri _ _)
  have hpb := a2Parts_ok xs (CL xs).1 (by omega) (by omega) (by rw [hbe]; exact sel_inR _ _)
  have hpbv : mand xs (CL xs).1 = (CL xs).2 := by rw [hbe, mand_sel g, hbv]
  rw [hpbv] at hpb
  have hpd := a2Parts_ok xs D (by omega) (by omega) hDr
  have hLp := LC_pos g
  have hswl : (swR xs).length = xs.length := by rw [swR, if_pos g.ok]; unfold swings; rw [sw_len]; simp
  have hswC : swC xs = 0 := by rw [swC, if_pos g.ok]
  have hlb := sF_bd g bf xs.length
  rw [← hbv] at hlb
  have h2l : wsum xs < 2 * (CL xs).2 := by rw [hbv]; exact hbw
  have hbD' : wsum xs < 2 * mand xs D → (CL xs).2 ≤ mand xs D := fun hh => hbD (by unfold Wn; rw [← hDm]; exact hh)
  have hriD : risesB D 0 ((xs.length : Int) - 1) = true := ris_of hDri
  have hmN0 : hmN xs D = 0 := by rw [hmN, if_pos hok, if_pos hriD]
  have hmB0 : hmB xs D = decide (wsum xs < 2 * mand xs D) := by
    rw [hmB, hok, hriD, wrap_i64_id _ (by omega)]; simp
  unfold bS at hhas hpar
  unfold iS at hle hsw hcl hmm hsum hri hpb hpd
  rw [hswC, hswl] at hsw
  rw [hmN0, hmB0] at hmm
  have hrows : ∀ i, i < (LC xs).length → RowOk xs (gr (LC xs) i) := fun i hi => RowOk.of g (gr_memI _ i hi)
  have hLn : (LC xs).length ≤ 256 := by
    have h1 := List.length_filter_le (lsB xs) (sI (subs xs.length (2 ^ xs.length)))
    have h2 : (sI (subs xs.length (2 ^ xs.length))).length = 2 ^ xs.length := by simp [sI, (subs_ok xs.length g8).2.1]
    have h3 := pow2_le xs.length g8
    unfold LC; omega
  have hswi : ∀ i, i < xs.length → 0 ≤ gi (swR xs) i ∧ (0 < gi (swR xs) i ↔ (i : Int) ∈ usL (LC xs) (LC xs).length) := fun i hi => by
    rw [usL_mem]; exact swings_ok g i hi
  have hwin : wiB (LC xs) D (LC xs).length = decide (wsum xs < 2 * mand xs D) := by
    have h1 := wiB_iff (LC xs) D
    rw [hD] at h1
    unfold Wn at h1
    rw [← hDm] at h1
    cases hw : wiB (LC xs) D (LC xs).length with
    | true => exact (decide_eq_true (h1.1 hw)).symm
    | false => exact (decide_eq_false fun hh => by rw [h1.2 hh] at hw; cases hw).symm
  exact ⟨xs, D, (CL xs).1, swR xs, LC xs, (CL xs).2, mand xs D, wsum xs, decide (wsum xs < 2 * mand xs D),
    ⟨hhas, hle, hsw, hcl, hpar, hmm, hsum, hri, hpb, hpd, fun y => by have := a2Has_ok D y (by omega); unfold iS at this; exact this, rfl, g8, hswl, ⟨hLp, hLn⟩, by omega, by omega, h2l, ⟨gp, by
      have := okV_sum (m := 60) (by omega) hok; omega⟩, rfl, hbD', g.bd, hrows, hswi, hwin⟩⟩
set_option maxRecDepth 100000 in
set_option maxHeartbeats 32000000 in
theorem coalLaw_ok (code more : List Int) (hb1 : bOk code) (hb2 : bOk more) (hl1 : code.length ≤ 9223372036854775807) (hl2 : more.length ≤ 9223372036854775807) :
    ACalls Try.prog 3 [bS code, bS more] [] (fun r o => r = B true ∧ o = []) := by
  refine ACalls.of_vc Try.func3 rfl (by decide) 225 rfl [.tmp 4] rfl (by simp) ?_
  have hlong := a2Long_ok code more hl1 hl2
  unfold bS at hlong ⊢
  (simp (maxSteps := 2000000) (disch := omega) only [go_sem, Nat.reduceEqDiff, Nat.reduceAdd, Nat.reduceMul, Nat.reduceSub, Int.reduceToNat, Int.reduceAdd, Int.reduceSub, Int.reduceMul, Int.reduceNeg]; repeat ((first | refine vIf_t ?_ | refine vIf_f ?_); simp (maxSteps := 2000000) (disch := omega) only [go_sem, Nat.reduceEqDiff, Nat.reduceAdd, Nat.reduceMul, Nat.reduceSub, Int.reduceToNat, Int.reduceAdd, Int.reduceSub, Int.reduceMul, Int.reduceNeg]))
  (refine vCallX_of ?_; (simp (maxSteps := 2000000) (disch := omega) only [go_sem, Nat.reduceEqDiff, Nat.reduceAdd, Nat.reduceMul, Nat.reduceSub, Int.reduceToNat, Int.reduceAdd, Int.reduceSub, Int.reduceMul, Int.reduceNeg]; repeat ((first | refine vIf_t ?_ | refine vIf_f ?_); simp (maxSteps := 2000000) (disch := omega) only [go_sem, Nat.reduceEqDiff, Nat.reduceAdd, Nat.reduceMul, Nat.reduceSub, Int.reduceToNat, Int.reduceAdd, Int.reduceSub, Int.reduceMul, Int.reduceNeg])); refine vCall_eq (hlong) (by simp (disch := omega) only [go_sem, Nat.reduceAdd]) rfl (by first | exact Or.inl rfl | exact Or.inr ⟨rfl, rfl⟩ | (apply Or.inr; simp only [go_sem])) ?_; (simp (maxSteps := 2000000) (disch := omega) only [go_sem, Nat.reduceEqDiff, Nat.reduceAdd, Nat.reduceMul, Nat.reduceSub, Int.reduceToNat, Int.reduceAdd, Int.reduceSub, Int.reduceMul, Int.reduceNeg]; repeat ((first | refine vIf_t ?_ | refine vIf_f ?_); simp (maxSteps := 2000000) (disch := omega) only [go_sem, Nat.reduceEqDiff, Nat.reduceAdd, Nat.reduceMul, Nat.reduceSub, Int.reduceToNat, Int.reduceAdd, Int.reduceSub, Int.reduceMul, Int.reduceNeg])))
  refine vIf_bool (fun h => ?_) (fun h => ?_)
  · (simp (maxSteps := 2000000) (disch := omega) only [go_sem, Nat.reduceEqDiff, Nat.reduceAdd, Nat.reduceMul, Nat.reduceSub, Int.reduceToNat, Int.reduceAdd, Int.reduceSub, Int.reduceMul, Int.reduceNeg]; repeat ((first | refine vIf_t ?_ | refine vIf_f ?_); simp (maxSteps := 2000000) (disch := omega) only [go_sem, Nat.reduceEqDiff, Nat.reduceAdd, Nat.reduceMul, Nat.reduceSub, Int.reduceToNat, Int.reduceAdd, Int.reduceSub, Int.reduceMul, Int.reduceNeg]))
    (refine retK_of ?_; (simp (maxSteps := 2000000) (disch := omega) only [go_sem, Nat.reduceEqDiff, Nat.reduceAdd, Nat.reduceMul, Nat.reduceSub, Int.reduceToNat, Int.reduceAdd, Int.reduceSub, Int.reduceMul, Int.reduceNeg]; repeat ((first | refine vIf_t ?_ | refine vIf_f ?_); simp (maxSteps := 2000000) (disch := omega) only [go_sem, Nat.reduceEqDiff, Nat.reduceAdd, Nat.reduceMul, Nat.reduceSub, Int.reduceToNat, Int.reduceAdd, Int.reduceSub, Int.reduceMul, Int.reduceNeg])))
  have h := of_decide_eq_false h
  obtain ⟨xs, D, best, sws, LL, few, P, W, isB, F⟩ := coF_ok code more hb1 hb2 (by omega) (by omega)
  clear hlong h hl1 hl2 hb1 hb2
  have n8 := F.n8
  have L1 := F.L1
  have fb := F.fb
  have W2 := F.W2
  have swl := F.swl
  (simp (maxSteps := 2000000) (disch := omega) only [go_sem, Nat.reduceEqDiff, Nat.reduceAdd, Nat.reduceMul, Nat.reduceSub, Int.reduceToNat, Int.reduceAdd, Int.reduceSub, Int.reduceMul, Int.reduceNeg]; repeat ((first | refine vIf_t ?_ | refine vIf_f ?_); simp (maxSteps := 2000000) (disch := omega) only [go_sem, Nat.reduceEqDiff, Nat.reduceAdd, Nat.reduceMul, Nat.reduceSub, Int.reduceToNat, Int.reduceAdd, Int.reduceSub, Int.reduceMul, Int.reduceNeg]))
  (refine vCallX_of ?_; (simp (maxSteps := 2000000) (disch := omega) only [go_sem, Nat.reduceEqDiff, Nat.reduceAdd, Nat.reduceMul, Nat.reduceSub, Int.reduceToNat, Int.reduceAdd, Int.reduceSub, Int.reduceMul, Int.reduceNeg]; repeat ((first | refine vIf_t ?_ | refine vIf_f ?_); simp (maxSteps := 2000000) (disch := omega) only [go_sem, Nat.reduceEqDiff, Nat.reduceAdd, Nat.reduceMul, Nat.reduceSub, Int.reduceToNat, Int.reduceAdd, Int.reduceSub, Int.reduceMul, Int.reduceNeg])); refine vCall_eq (F.has) (by simp (disch := omega) only [go_sem, Nat.reduceAdd]) rfl (by first | exact Or.inl rfl | exact Or.inr ⟨rfl, rfl⟩ | (apply Or.inr; simp only [go_sem])) ?_; (simp (maxSteps := 2000000) (disch := omega) only [go_sem, Nat.reduceEqDiff, Nat.reduceAdd, Nat.reduceMul, Nat.reduceSub, Int.reduceToNat, Int.reduceAdd, Int.reduceSub, Int.reduceMul, Int.reduceNeg]; repeat ((first | refine vIf_t ?_ | refine vIf_f ?_); simp (maxSteps := 2000000) (disch := omega) only [go_sem, Nat.reduceEqDiff, Nat.reduceAdd, Nat.reduceMul, Nat.reduceSub, Int.reduceToNat, Int.reduceAdd, Int.reduceSub, Int.reduceMul, Int.reduceNeg])))
  (refine vCallX_frz (.step 0 ⟨1, ints xs⟩ rfl (by simp (disch := omega) only [go_sem, Nat.reduceAdd]) (.refl _)) ?_; (simp (maxSteps := 2000000) (disch := omega) only [go_sem, Nat.reduceEqDiff, Nat.reduceAdd, Nat.reduceMul, Nat.reduceSub, Int.reduceToNat, Int.reduceAdd, Int.reduceSub, Int.reduceMul, Int.reduceNeg]; repeat ((first | refine vIf_t ?_ | refine vIf_f ?_); simp (maxSteps := 2000000) (disch := omega) only [go_sem, Nat.reduceEqDiff, Nat.reduceAdd, Nat.reduceMul, Nat.reduceSub, Int.reduceToNat, Int.reduceAdd, Int.reduceSub, Int.reduceMul, Int.reduceNeg])); refine vCall_eq (F.le) (by simp (disch := omega) only [go_sem, Nat.reduceAdd]) rfl (by first | exact Or.inl rfl | exact Or.inr ⟨rfl, rfl⟩ | (apply Or.inr; simp only [go_sem])) ?_; (simp (maxSteps := 2000000) (disch := omega) only [go_sem, Nat.reduceEqDiff, Nat.reduceAdd, Nat.reduceMul, Nat.reduceSub, Int.reduceToNat, Int.reduceAdd, Int.reduceSub, Int.reduceMul, Int.reduceNeg]; repeat ((first | refine vIf_t ?_ | refine vIf_f ?_); simp (maxSteps := 2000000) (disch := omega) only [go_sem, Nat.reduceEqDiff, Nat.reduceAdd, Nat.reduceMul, Nat.reduceSub, Int.reduceToNat, Int.reduceAdd, Int.reduceSub, Int.reduceMul, Int.reduceNeg])))
  (refine vCallX_of ?_; (simp (maxSteps := 2000000) (disch := omega) only [go_sem, Nat.reduceEqDiff, Nat.reduceAdd, Nat.reduceMul, Nat.reduceSub, Int.reduceToNat, Int.reduceAdd, Int.reduceSub, Int.reduceMul, Int.reduceNeg]; repeat ((first | refine vIf_t ?_ | refine vIf_f ?_); simp (maxSteps := 2000000) (disch := omega) only [go_sem, Nat.reduceEqDiff, Nat.reduceAdd, Nat.reduceMul, Nat.reduceSub, Int.reduceToNat, Int.reduceAdd, Int.reduceSub, Int.reduceMul, Int.reduceNeg])); refine vCall_eq (F.sw) (by simp (disch := omega) only [go_sem, Nat.reduceAdd]) rfl (by first | exact Or.inl rfl | exact Or.inr ⟨rfl, rfl⟩ | (apply Or.inr; simp only [go_sem])) ?_; (simp (maxSteps := 2000000) (disch := omega) only [go_sem, Nat.reduceEqDiff, Nat.reduceAdd, Nat.reduceMul, Nat.reduceSub, Int.reduceToNat, Int.reduceAdd, Int.reduceSub, Int.reduceMul, Int.reduceNeg]; repeat ((first | refine vIf_t ?_ | refine vIf_f ?_); simp (maxSteps := 2000000) (disch := omega) only [go_sem, Nat.reduceEqDiff, Nat.reduceAdd, Nat.reduceMul, Nat.reduceSub, Int.reduceToNat, Int.reduceAdd, Int.reduceSub, Int.reduceMul, Int.reduceNeg])))
  (refine vCallX_of ?_; (simp (maxSteps := 2000000) (disch := omega) only [go_sem, Nat.reduceEqDiff, Nat.reduceAdd, Nat.reduceMul, Nat.reduceSub, Int.reduceToNat, Int.reduceAdd, Int.reduceSub, Int.reduceMul, Int.reduceNeg]; repeat ((first | refine vIf_t ?_ | refine vIf_f ?_); simp (maxSteps := 2000000) (disch := omega) only [go_sem, Nat.reduceEqDiff, Nat.reduceAdd, Nat.reduceMul, Nat.reduceSub, Int.reduceToNat, Int.reduceAdd, Int.reduceSub, Int.reduceMul, Int.reduceNeg])); refine vCall_eq (F.cl) (by simp (disch := omega) only [go_sem, Nat.reduceAdd]) rfl (by first | exact Or.inl rfl | exact Or.inr ⟨rfl, rfl⟩ | (apply Or.inr; simp only [go_sem])) ?_; (simp (maxSteps := 2000000) (disch := omega) only [go_sem, Nat.reduceEqDiff, Nat.reduceAdd, Nat.reduceMul, Nat.reduceSub, Int.reduceToNat, Int.reduceAdd, Int.reduceSub, Int.reduceMul, Int.reduceNeg]; repeat ((first | refine vIf_t ?_ | refine vIf_f ?_); simp (maxSteps := 2000000) (disch := omega) only [go_sem, Nat.reduceEqDiff, Nat.reduceAdd, Nat.reduceMul, Nat.reduceSub, Int.reduceToNat, Int.reduceAdd, Int.reduceSub, Int.reduceMul, Int.reduceNeg])))
  (refine vCallX_of ?_; (simp (maxSteps := 2000000) (disch := omega) only [go_sem, Nat.reduceEqDiff, Nat.reduceAdd, Nat.reduceMul, Nat.reduceSub, Int.reduceToNat, Int.reduceAdd, Int.reduceSub, Int.reduceMul, Int.reduceNeg]; repeat ((first | refine vIf_t ?_ | refine vIf_f ?_); simp (maxSteps := 2000000) (disch := omega) only [go_sem, Nat.reduceEqDiff, Nat.reduceAdd, Nat.reduceMul, Nat.reduceSub, Int.reduceToNat, Int.reduceAdd, Int.reduceSub, Int.reduceMul, Int.reduceNeg])); refine vCall_eq (F.par) (by simp (disch := omega) only [go_sem, Nat.reduceAdd]) rfl (by first | exact Or.inl rfl | exact Or.inr ⟨rfl, rfl⟩ | (apply Or.inr; simp only [go_sem])) ?_; (simp (maxSteps := 2000000) (disch := omega) only [go_sem, Nat.reduceEqDiff, Nat.reduceAdd, Nat.reduceMul, Nat.reduceSub, Int.reduceToNat, Int.reduceAdd, Int.reduceSub, Int.reduceMul, Int.reduceNeg]; repeat ((first | refine vIf_t ?_ | refine vIf_f ?_); simp (maxSteps := 2000000) (disch := omega) only [go_sem, Nat.reduceEqDiff, Nat.reduceAdd, Nat.reduceMul, Nat.reduceSub, Int.reduceToNat, Int.reduceAdd, Int.reduceSub, Int.reduceMul, Int.reduceNeg])))
  (refine vCallX_of ?_; (simp (maxSteps := 2000000) (disch := omega) only [go_sem, Nat.reduceEqDiff, Nat.reduceAdd, Nat.reduceMul, Nat.reduceSub, Int.reduceToNat, Int.reduceAdd, Int.reduceSub, Int.reduceMul, Int.reduceNeg]; repeat ((first | refine vIf_t ?_ | refine vIf_f ?_); simp (maxSteps := 2000000) (disch := omega) only [go_sem, Nat.reduceEqDiff, Nat.reduceAdd, Nat.reduceMul, Nat.reduceSub, Int.reduceToNat, Int.reduceAdd, Int.reduceSub, Int.reduceMul, Int.reduceNeg])); refine vCall_eq (F.mm) (by simp (disch := omega) only [go_sem, Nat.reduceAdd]) rfl (by first | exact Or.inl rfl | exact Or.inr ⟨rfl, rfl⟩ | (apply Or.inr; simp only [go_sem])) ?_; (simp (maxSteps := 2000000) (disch := omega) only [go_sem, Nat.reduceEqDiff, Nat.reduceAdd, Nat.reduceMul, Nat.reduceSub, Int.reduceToNat, Int.reduceAdd, Int.reduceSub, Int.reduceMul, Int.reduceNeg]; repeat ((first | refine vIf_t ?_ | refine vIf_f ?_); simp (maxSteps := 2000000) (disch := omega) only [go_sem, Nat.reduceEqDiff, Nat.reduceAdd, Nat.reduceMul, Nat.reduceSub, Int.reduceToNat, Int.reduceAdd, Int.reduceSub, Int.reduceMul, Int.reduceNeg])))
  (refine vCallX_of ?_; (simp (maxSteps := 2000000) (disch := omega) only [go_sem, Nat.reduceEqDiff, Nat.reduceAdd, Nat.reduceMul, Nat.reduceSub, Int.reduceToNat, Int.reduceAdd, Int.reduceSub, Int.reduceMul, Int.reduceNeg]; repeat ((first | refine vIf_t ?_ | refine vIf_f ?_); simp (maxSteps := 2000000) (disch := omega) only [go_sem, Nat.reduceEqDiff, Nat.reduceAdd, Nat.reduceMul, Nat.reduceSub, Int.reduceToNat, Int.reduceAdd, Int.reduceSub, Int.reduceMul, Int.reduceNeg])); refine vCall_eq (F.sum) (by simp (disch := omega) only [go_sem, Nat.reduceAdd]) rfl (by first | exact Or.inl rfl | exact Or.inr ⟨rfl, rfl⟩ | (apply Or.inr; simp only [go_sem])) ?_; (simp (maxSteps := 2000000) (disch := omega) only [go_sem, Nat.reduceEqDiff, Nat.reduceAdd, Nat.reduceMul, Nat.reduceSub, Int.reduceToNat, Int.reduceAdd, Int.reduceSub, Int.reduceMul, Int.reduceNeg]; repeat ((first | refine vIf_t ?_ | refine vIf_f ?_); simp (maxSteps := 2000000) (disch := omega) only [go_sem, Nat.reduceEqDiff, Nat.reduceAdd, Nat.reduceMul, Nat.reduceSub, Int.reduceToNat, Int.reduceAdd, Int.reduceSub, Int.reduceMul, Int.reduceNeg])))
  (refine vCallX_of ?_; (simp (maxSteps := 2000000) (disch := omega) only [go_sem, Nat.reduceEqDiff, Nat.reduceAdd, Nat.reduceMul, Nat.reduceSub, Int.reduceToNat, Int.reduceAdd, Int.reduceSub, Int.reduceMul, Int.reduceNeg]; repeat ((first | refine vIf_t ?_ | refine vIf_f ?_); simp (maxSteps := 2000000) (disch := omega) only [go_sem, Nat.reduceEqDiff, Nat.reduceAdd, Nat.reduceMul, Nat.reduceSub, Int.reduceToNat, Int.reduceAdd, Int.reduceSub, Int.reduceMul, Int.reduceNeg])); refine vCall_eq (F.ri) (by simp (disch := omega) only [go_sem, Nat.reduceAdd]) rfl (by first | exact Or.inl rfl | exact Or.inr ⟨rfl, rfl⟩ | (apply Or.inr; simp only [go_sem])) ?_; (simp (maxSteps := 2000000) (disch := omega) only [go_sem, Nat.reduceEqDiff, Nat.reduceAdd, Nat.reduceMul, Nat.reduceSub, Int.reduceToNat, Int.reduceAdd, Int.reduceSub, Int.reduceMul, Int.reduceNeg]; repeat ((first | refine vIf_t ?_ | refine vIf_f ?_); simp (maxSteps := 2000000) (disch := omega) only [go_sem, Nat.reduceEqDiff, Nat.reduceAdd, Nat.reduceMul, Nat.reduceSub, Int.reduceToNat, Int.reduceAdd, Int.reduceSub, Int.reduceMul, Int.reduceNeg])))
  (refine vCallX_of ?_; (simp (maxSteps := 2000000) (disch := omega) only [go_sem, Nat.reduceEqDiff, Nat.reduceAdd, Nat.reduceMul, Nat.reduceSub, Int.reduceToNat, Int.reduceAdd, Int.reduceSub, Int.reduceMul, Int.reduceNeg]; repeat ((first | refine vIf_t ?_ | refine vIf_f ?_); simp (maxSteps := 2000000) (disch := omega) only [go_sem, Nat.reduceEqDiff, Nat.reduceAdd, Nat.reduceMul, Nat.reduceSub, Int.reduceToNat, Int.reduceAdd, Int.reduceSub, Int.reduceMul, Int.reduceNeg])); refine vCall_eq (F.pb) (by simp (disch := omega) only [go_sem, Nat.reduceAdd]) rfl (by first | exact Or.inl rfl | exact Or.inr ⟨rfl, rfl⟩ | (apply Or.inr; simp only [go_sem])) ?_; (simp (maxSteps := 2000000) (disch := omega) only [go_sem, Nat.reduceEqDiff, Nat.reduceAdd, Nat.reduceMul, Nat.reduceSub, Int.reduceToNat, Int.reduceAdd, Int.reduceSub, Int.reduceMul, Int.reduceNeg]; repeat ((first | refine vIf_t ?_ | refine vIf_f ?_); simp (maxSteps := 2000000) (disch := omega) only [go_sem, Nat.reduceEqDiff, Nat.reduceAdd, Nat.reduceMul, Nat.reduceSub, Int.reduceToNat, Int.reduceAdd, Int.reduceSub, Int.reduceMul, Int.reduceNeg])))
  (refine vCallX_of ?_; (simp (maxSteps := 2000000) (disch := omega) only [go_sem, Nat.reduceEqDiff, Nat.reduceAdd, Nat.reduceMul, Nat.reduceSub, Int.reduceToNat, Int.reduceAdd, Int.reduceSub, Int.reduceMul, Int.reduceNeg]; repeat ((first | refine vIf_t ?_ | refine vIf_f ?_); simp (maxSteps := 2000000) (disch := omega) only [go_sem, Nat.reduceEqDiff, Nat.reduceAdd, Nat.reduceMul, Nat.reduceSub, Int.reduceToNat, Int.reduceAdd, Int.reduceSub, Int.reduceMul, Int.reduceNeg])); refine vCall_eq (F.pd) (by simp (disch := omega) only [go_sem, Nat.reduceAdd]) rfl (by first | exact Or.inl rfl | exact Or.inr ⟨rfl, rfl⟩ | (apply Or.inr; simp only [go_sem])) ?_; (simp (maxSteps := 2000000) (disch := omega) only [go_sem, Nat.reduceEqDiff, Nat.reduceAdd, Nat.reduceMul, Nat.reduceSub, Int.reduceToNat, Int.reduceAdd, Int.reduceSub, Int.reduceMul, Int.reduceNeg]; repeat ((first | refine vIf_t ?_ | refine vIf_f ?_); simp (maxSteps := 2000000) (disch := omega) only [go_sem, Nat.reduceEqDiff, Nat.reduceAdd, Nat.reduceMul, Nat.reduceSub, Int.reduceToNat, Int.reduceAdd, Int.reduceSub, Int.reduceMul, Int.reduceNeg])))
  have hisE := F.isE
  have Pb := F.Pb
  have Wb := F.Wb
  by_cases hw : W < 2 * P
  case' pos =>
    have hwb : decide (W < 2 * P) = true := decide_eq_true hw
    have hle2 := F.le2 hw
    have hlt : decide (P < few) = false := decide_eq_false (by omega)
    have hisT : isB = true := by rw [hisE, hwb]
    have hwr : IntKind.wrap .i64 (2 * P) = 2 * P := wrap_i64_id _ (by omega)
    (try (simp (maxSteps := 2000000) (disch := omega) only [go_sem, Nat.reduceEqDiff, Nat.reduceAdd, Nat.reduceMul, Nat.reduceSub, Int.reduceToNat, Int.reduceAdd, Int.reduceSub, Int.reduceMul, Int.reduceNeg, hwb, hwr, hisT, bne_self_eq_false]; repeat ((first | refine vIf_t ?_ | refine vIf_f ?_); simp (maxSteps := 2000000) (disch := omega) only [go_sem, Nat.reduceEqDiff, Nat.reduceAdd, Nat.reduceMul, Nat.reduceSub, Int.reduceToNat, Int.reduceAdd, Int.reduceSub, Int.reduceMul, Int.reduceNeg, hwb, hwr, hisT, bne_self_eq_false])))
    (refine vCallX_of ?_; (simp (maxSteps := 2000000) (disch := omega) only [go_sem, Nat.reduceEqDiff, Nat.reduceAdd, Nat.reduceMul, Nat.reduceSub, Int.reduceToNat, Int.reduceAdd, Int.reduceSub, Int.reduceMul, Int.reduceNeg]; repeat ((first | refine vIf_t ?_ | refine vIf_f ?_); simp (maxSteps := 2000000) (disch := omega) only [go_sem, Nat.reduceEqDiff, Nat.reduceAdd, Nat.reduceMul, Nat.reduceSub, Int.reduceToNat, Int.reduceAdd, Int.reduceSub, Int.reduceMul, Int.reduceNeg])); refine vCall_eq (F.pd) (by simp (disch := omega) only [go_sem, Nat.reduceAdd]) rfl (by first | exact Or.inl rfl | exact Or.inr ⟨rfl, rfl⟩ | (apply Or.inr; simp only [go_sem])) ?_; (simp (maxSteps := 2000000) (disch := omega) only [go_sem, Nat.reduceEqDiff, Nat.reduceAdd, Nat.reduceMul, Nat.reduceSub, Int.reduceToNat, Int.reduceAdd, Int.reduceSub, Int.reduceMul, Int.reduceNeg]; repeat ((first | refine vIf_t ?_ | refine vIf_f ?_); simp (maxSteps := 2000000) (disch := omega) only [go_sem, Nat.reduceEqDiff, Nat.reduceAdd, Nat.reduceMul, Nat.reduceSub, Int.reduceToNat, Int.reduceAdd, Int.reduceSub, Int.reduceMul, Int.reduceNeg])))
    (try (simp (maxSteps := 2000000) (disch := omega) only [go_sem, Nat.reduceEqDiff, Nat.reduceAdd, Nat.reduceMul, Nat.reduceSub, Int.reduceToNat, Int.reduceAdd, Int.reduceSub, Int.reduceMul, Int.reduceNeg, hlt]; repeat ((first | refine vIf_t ?_ | refine vIf_f ?_); simp (maxSteps := 2000000) (disch := omega) only [go_sem, Nat.reduceEqDiff, Nat.reduceAdd, Nat.reduceMul, Nat.reduceSub, Int.reduceToNat, Int.reduceAdd, Int.reduceSub, Int.reduceMul, Int.reduceNeg, hlt])))
  case' neg =>
    have hwb : decide (W < 2 * P) = false := decide_eq_false hw
    have hisT : isB = false := by rw [hisE, hwb]
    have hwr : IntKind.wrap .i64 (2 * P) = 2 * P := wrap_i64_id _ (by omega)
    (try (simp (maxSteps := 2000000) (disch := omega) only [go_sem, Nat.reduceEqDiff, Nat.reduceAdd, Nat.reduceMul, Nat.reduceSub, Int.reduceToNat, Int.reduceAdd, Int.reduceSub, Int.reduceMul, Int.reduceNeg, hwb, hwr, hisT, bne_self_eq_false]; repeat ((first | refine vIf_t ?_ | refine vIf_f ?_); simp (maxSteps := 2000000) (disch := omega) only [go_sem, Nat.reduceEqDiff, Nat.reduceAdd, Nat.reduceMul, Nat.reduceSub, Int.reduceToNat, Int.reduceAdd, Int.reduceSub, Int.reduceMul, Int.reduceNeg, hwb, hwr, hisT, bne_self_eq_false])))
  all_goals (
    refine vcLoop_inv (fun i : Nat => i ≤ LL.length) (fun i => ⟨225, 0, [(19, I i), (17, B (wiB LL D i)), (6, .ref 1 0 LL.length), (13, .ref 3 0 D.length), (18, .ref 4 0 xs.length), (16, I W), (5, iS xs), (8, .ref 2 0 xs.length), (14, B isB)], [none, some ⟨1, rws LL⟩, oI sws, oI D, some ⟨1, bls (usd xs.length (usL LL i))⟩]⟩) (fun i => LL.length - i) 0 (by omega) (by (simp (maxSteps := 2000000) (disch := omega) only [go_sem, Nat.reduceEqDiff, Nat.reduceAdd, Nat.reduceMul, Nat.reduceSub, Int.reduceToNat, Int.reduceAdd, Int.reduceSub, Int.reduceMul, Int.reduceNeg, iS, hisT, usd_nil, usL, wiB]; repeat ((first | refine vIf_t ?_ | refine vIf_f ?_); simp (maxSteps := 2000000) (disch := omega) only [go_sem, Nat.reduceEqDiff, Nat.reduceAdd, Nat.reduceMul, Nat.reduceSub, Int.reduceToNat, Int.reduceAdd, Int.reduceSub, Int.reduceMul, Int.reduceNeg, iS, hisT, usd_nil, usL, wiB])); simp [usd_nil]) ?_
    clear hwb hisT hw hwr
    intro i hi
    unfold iS
    (simp (maxSteps := 2000000) (disch := omega) only [go_sem, Nat.reduceEqDiff, Nat.reduceAdd, Nat.reduceMul, Nat.reduceSub, Int.reduceToNat, Int.reduceAdd, Int.reduceSub, Int.reduceMul, Int.reduceNeg]; repeat ((first | refine vIf_t ?_ | refine vIf_f ?_); simp (maxSteps := 2000000) (disch := omega) only [go_sem, Nat.reduceEqDiff, Nat.reduceAdd, Nat.reduceMul, Nat.reduceSub, Int.reduceToNat, Int.reduceAdd, Int.reduceSub, Int.reduceMul, Int.reduceNeg]))
    refine vIf_dec (fun hc => ?_) (fun hc => ?_)
    · have hil : i < LL.length := by omega
      have hro := F.rows i hil
      have hus := usL_succ LL i hil
      have hwi := wiB_succ LL D i
      obtain ⟨row, hrw⟩ : ∃ row, row = gr LL i := ⟨_, rfl⟩
      rw [← hrw] at hro hus hwi
      obtain ⟨r8, rri, rir, rbd, rwn, rcr⟩ := hro
      rw [← F.eW] at rwn rcr
      have hra := a2Rises_ok row xs.length (by omega) rri
      have hpr := a2Parts_ok xs row (by omega) (by omega) rir
      unfold iS at hra hpr
      (simp (maxSteps := 2000000) (disch := omega) only [go_sem, Nat.reduceEqDiff, Nat.reduceAdd, Nat.reduceMul, Nat.reduceSub, Int.reduceToNat, Int.reduceAdd, Int.reduceSub, Int.reduceMul, Int.reduceNeg, ← hrw]; repeat ((first | refine vIf_t ?_ | refine vIf_f ?_); simp (maxSteps := 2000000) (disch := omega) only [go_sem, Nat.reduceEqDiff, Nat.reduceAdd, Nat.reduceMul, Nat.reduceSub, Int.reduceToNat, Int.reduceAdd, Int.reduceSub, Int.reduceMul, Int.reduceNeg, ← hrw]))
      (refine vCallX_of ?_; (simp (maxSteps := 2000000) (disch := omega) only [go_sem, Nat.reduceEqDiff, Nat.reduceAdd, Nat.reduceMul, Nat.reduceSub, Int.reduceToNat, Int.reduceAdd, Int.reduceSub, Int.reduceMul, Int.reduceNeg]; repeat ((first | refine vIf_t ?_ | refine vIf_f ?_); simp (maxSteps := 2000000) (disch := omega) only [go_sem, Nat.reduceEqDiff, Nat.reduceAdd, Nat.reduceMul, Nat.reduceSub, Int.reduceToNat, Int.reduceAdd, Int.reduceSub, Int.reduceMul, Int.reduceNeg])); refine vCall_eq (hra) (by simp (disch := omega) only [go_sem, Nat.reduceAdd]) rfl (by first | exact Or.inl rfl | exact Or.inr ⟨rfl, rfl⟩ | (apply Or.inr; simp only [go_sem])) ?_; (simp (maxSteps := 2000000) (disch := omega) only [go_sem, Nat.reduceEqDiff, Nat.reduceAdd, Nat.reduceMul, Nat.reduceSub, Int.reduceToNat, Int.reduceAdd, Int.reduceSub, Int.reduceMul, Int.reduceNeg]; repeat ((first | refine vIf_t ?_ | refine vIf_f ?_); simp (maxSteps := 2000000) (disch := omega) only [go_sem, Nat.reduceEqDiff, Nat.reduceAdd, Nat.reduceMul, Nat.reduceSub, Int.reduceToNat, Int.reduceAdd, Int.reduceSub, Int.reduceMul, Int.reduceNeg])))
      (try (simp (maxSteps := 2000000) (disch := omega) only [go_sem, Nat.reduceEqDiff, Nat.reduceAdd, Nat.reduceMul, Nat.reduceSub, Int.reduceToNat, Int.reduceAdd, Int.reduceSub, Int.reduceMul, Int.reduceNeg, ← hrw]; repeat ((first | refine vIf_t ?_ | refine vIf_f ?_); simp (maxSteps := 2000000) (disch := omega) only [go_sem, Nat.reduceEqDiff, Nat.reduceAdd, Nat.reduceMul, Nat.reduceSub, Int.reduceToNat, Int.reduceAdd, Int.reduceSub, Int.reduceMul, Int.reduceNeg, ← hrw])))
      (refine vCallX_of ?_; (simp (maxSteps := 2000000) (disch := omega) only [go_sem, Nat.reduceEqDiff, Nat.reduceAdd, Nat.reduceMul, Nat.reduceSub, Int.reduceToNat, Int.reduceAdd, Int.reduceSub, Int.reduceMul, Int.reduceNeg]; repeat ((first | refine vIf_t ?_ | refine vIf_f ?_); simp (maxSteps := 2000000) (disch := omega) only [go_sem, Nat.reduceEqDiff, Nat.reduceAdd, Nat.reduceMul, Nat.reduceSub, Int.reduceToNat, Int.reduceAdd, Int.reduceSub, Int.reduceMul, Int.reduceNeg])); refine vCall_eq (hpr) (by simp (disch := omega) only [go_sem, Nat.reduceAdd]) rfl (by first | exact Or.inl rfl | exact Or.inr ⟨rfl, rfl⟩ | (apply Or.inr; simp only [go_sem])) ?_; (simp (maxSteps := 2000000) (disch := omega) only [go_sem, Nat.reduceEqDiff, Nat.reduceAdd, Nat.reduceMul, Nat.reduceSub, Int.reduceToNat, Int.reduceAdd, Int.reduceSub, Int.reduceMul, Int.reduceNeg]; repeat ((first | refine vIf_t ?_ | refine vIf_f ?_); simp (maxSteps := 2000000) (disch := omega) only [go_sem, Nat.reduceEqDiff, Nat.reduceAdd, Nat.reduceMul, Nat.reduceSub, Int.reduceToNat, Int.reduceAdd, Int.reduceSub, Int.reduceMul, Int.reduceNeg])))
      refine vcLoop_inv (fun k : Nat => k ≤ row.length) (fun k => ⟨225, 0, [(22, I k), (19, I i), (21, B ((row.take k).all (fun y => decide (y ∈ D)))), (20, I (mand xs row)), (17, B (wiB LL D i)), (6, .ref 1 0 LL.length), (13, .ref 3 0 D.length), (18, .ref 4 0 xs.length), (16, I W), (5, iS xs), (8, .ref 2 0 xs.length), (14, B isB)], [none, some ⟨1, rws LL⟩, oI sws, oI D, some ⟨1, bls (usd xs.length (usL LL i ++ row.take k))⟩]⟩) (fun k => row.length - k) 0 (by omega) (by (simp (maxSteps := 2000000) (disch := omega) only [go_sem, Nat.reduceEqDiff, Nat.reduceAdd, Nat.reduceMul, Nat.reduceSub, Int.reduceToNat, Int.reduceAdd, Int.reduceSub, Int.reduceMul, Int.reduceNeg, iS]; repeat ((first | refine vIf_t ?_ | refine vIf_f ?_); simp (maxSteps := 2000000) (disch := omega) only [go_sem, Nat.reduceEqDiff, Nat.reduceAdd, Nat.reduceMul, Nat.reduceSub, Int.reduceToNat, Int.reduceAdd, Int.reduceSub, Int.reduceMul, Int.reduceNeg, iS])); all_goals (try simp)) ?_
      intro k hk
      unfold iS
      (simp (maxSteps := 2000000) (disch := omega) only [go_sem, Nat.reduceEqDiff, Nat.reduceAdd, Nat.reduceMul, Nat.reduceSub, Int.reduceToNat, Int.reduceAdd, Int.reduceSub, Int.reduceMul, Int.reduceNeg, ← hrw]; repeat ((first | refine vIf_t ?_ | refine vIf_f ?_); simp (maxSteps := 2000000) (disch := omega) only [go_sem, Nat.reduceEqDiff, Nat.reduceAdd, Nat.reduceMul, Nat.reduceSub, Int.reduceToNat, Int.reduceAdd, Int.reduceSub, Int.reduceMul, Int.reduceNeg, ← hrw]))
      refine vIf_dec (fun hc2 => ?_) (fun hc2 => ?_)
      · have hkl : k < row.length := by omega
        have hcr := rcr k hkl
        have hin := rir k hkl
        have hgb := F.gb (gi row k).toNat
        have hul := usd_len xs.length (usL LL i ++ row.take k)
        have hset := usd_set xs.length (usL LL i ++ row.take k) (gi row k) hin
        rw [List.append_assoc, ← take_succ_gi row k hkl] at hset
        have hah := F.ah (gi row k)
        have hsn := allD_snoc row D k hkl
        have hcd : decide (W < 2 * (mand xs row - gi xs (gi row k).toNat)) = false := decide_eq_false (by omega)
        (simp (maxSteps := 2000000) (disch := omega) only [go_sem, Nat.reduceEqDiff, Nat.reduceAdd, Nat.reduceMul, Nat.reduceSub, Int.reduceToNat, Int.reduceAdd, Int.reduceSub, Int.reduceMul, Int.reduceNeg, ← hrw]; repeat ((first | refine vIf_t ?_ | refine vIf_f ?_); simp (maxSteps := 2000000) (disch := omega) only [go_sem, Nat.reduceEqDiff, Nat.reduceAdd, Nat.reduceMul, Nat.reduceSub, Int.reduceToNat, Int.reduceAdd, Int.reduceSub, Int.reduceMul, Int.reduceNeg, ← hrw]))
        (try (simp (maxSteps := 2000000) (disch := omega) only [go_sem, Nat.reduceEqDiff, Nat.reduceAdd, Nat.reduceMul, Nat.reduceSub, Int.reduceToNat, Int.reduceAdd, Int.reduceSub, Int.reduceMul, Int.reduceNeg, hcd, ← hrw]; repeat ((first | refine vIf_t ?_ | refine vIf_f ?_); simp (maxSteps := 2000000) (disch := omega) only [go_sem, Nat.reduceEqDiff, Nat.reduceAdd, Nat.reduceMul, Nat.reduceSub, Int.reduceToNat, Int.reduceAdd, Int.reduceSub, Int.reduceMul, Int.reduceNeg, hcd, ← hrw])))
        cases hp : (row.take k).all (fun y => decide (y ∈ D)) with
        | false =>
          rw [hp, Bool.false_and] at hsn
          (try (simp (maxSteps := 2000000) (disch := omega) only [go_sem, Nat.reduceEqDiff, Nat.reduceAdd, Nat.reduceMul, Nat.reduceSub, Int.reduceToNat, Int.reduceAdd, Int.reduceSub, Int.reduceMul, Int.reduceNeg, hp, ← hrw]; repeat ((first | refine vIf_t ?_ | refine vIf_f ?_); simp (maxSteps := 2000000) (disch := omega) only [go_sem, Nat.reduceEqDiff, Nat.reduceAdd, Nat.reduceMul, Nat.reduceSub, Int.reduceToNat, Int.reduceAdd, Int.reduceSub, Int.reduceMul, Int.reduceNeg, hp, ← hrw])))
          refine again (k + 1) (by omega) (by omega) ?_
          rw [hsn, ← hset]
          (simp (maxSteps := 2000000) (disch := omega) only [go_sem, Nat.reduceEqDiff, Nat.reduceAdd, Nat.reduceMul, Nat.reduceSub, Int.reduceToNat, Int.reduceAdd, Int.reduceSub, Int.reduceMul, Int.reduceNeg, iS]; repeat ((first | refine vIf_t ?_ | refine vIf_f ?_); simp (maxSteps := 2000000) (disch := omega) only [go_sem, Nat.reduceEqDiff, Nat.reduceAdd, Nat.reduceMul, Nat.reduceSub, Int.reduceToNat, Int.reduceAdd, Int.reduceSub, Int.reduceMul, Int.reduceNeg, iS]))
        | true =>
          rw [hp, Bool.true_and] at hsn
          (try (simp (maxSteps := 2000000) (disch := omega) only [go_sem, Nat.reduceEqDiff, Nat.reduceAdd, Nat.reduceMul, Nat.reduceSub, Int.reduceToNat, Int.reduceAdd, Int.reduceSub, Int.reduceMul, Int.reduceNeg, hp, ← hrw]; repeat ((first | refine vIf_t ?_ | refine vIf_f ?_); simp (maxSteps := 2000000) (disch := omega) only [go_sem, Nat.reduceEqDiff, Nat.reduceAdd, Nat.reduceMul, Nat.reduceSub, Int.reduceToNat, Int.reduceAdd, Int.reduceSub, Int.reduceMul, Int.reduceNeg, hp, ← hrw])))
          (refine vCallX_of ?_; (simp (maxSteps := 2000000) (disch := omega) only [go_sem, Nat.reduceEqDiff, Nat.reduceAdd, Nat.reduceMul, Nat.reduceSub, Int.reduceToNat, Int.reduceAdd, Int.reduceSub, Int.reduceMul, Int.reduceNeg]; repeat ((first | refine vIf_t ?_ | refine vIf_f ?_); simp (maxSteps := 2000000) (disch := omega) only [go_sem, Nat.reduceEqDiff, Nat.reduceAdd, Nat.reduceMul, Nat.reduceSub, Int.reduceToNat, Int.reduceAdd, Int.reduceSub, Int.reduceMul, Int.reduceNeg])); refine vCall_eq (hah) (by simp (disch := omega) only [go_sem, Nat.reduceAdd]) rfl (by first | exact Or.inl rfl | exact Or.inr ⟨rfl, rfl⟩ | (apply Or.inr; simp only [go_sem])) ?_; (simp (maxSteps := 2000000) (disch := omega) only [go_sem, Nat.reduceEqDiff, Nat.reduceAdd, Nat.reduceMul, Nat.reduceSub, Int.reduceToNat, Int.reduceAdd, Int.reduceSub, Int.reduceMul, Int.reduceNeg]; repeat ((first | refine vIf_t ?_ | refine vIf_f ?_); simp (maxSteps := 2000000) (disch := omega) only [go_sem, Nat.reduceEqDiff, Nat.reduceAdd, Nat.reduceMul, Nat.reduceSub, Int.reduceToNat, Int.reduceAdd, Int.reduceSub, Int.reduceMul, Int.reduceNeg])))
          (try (simp (maxSteps := 2000000) (disch := omega) only [go_sem, Nat.reduceEqDiff, Nat.reduceAdd, Nat.reduceMul, Nat.reduceSub, Int.reduceToNat, Int.reduceAdd, Int.reduceSub, Int.reduceMul, Int.reduceNeg, hp, ← hrw]; repeat ((first | refine vIf_t ?_ | refine vIf_f ?_); simp (maxSteps := 2000000) (disch := omega) only [go_sem, Nat.reduceEqDiff, Nat.reduceAdd, Nat.reduceMul, Nat.reduceSub, Int.reduceToNat, Int.reduceAdd, Int.reduceSub, Int.reduceMul, Int.reduceNeg, hp, ← hrw])))
          refine again (k + 1) (by omega) (by omega) ?_
          rw [hsn, ← hset]
          (simp (maxSteps := 2000000) (disch := omega) only [go_sem, Nat.reduceEqDiff, Nat.reduceAdd, Nat.reduceMul, Nat.reduceSub, Int.reduceToNat, Int.reduceAdd, Int.reduceSub, Int.reduceMul, Int.reduceNeg, iS]; repeat ((first | refine vIf_t ?_ | refine vIf_f ?_); simp (maxSteps := 2000000) (disch := omega) only [go_sem, Nat.reduceEqDiff, Nat.reduceAdd, Nat.reduceMul, Nat.reduceSub, Int.reduceToNat, Int.reduceAdd, Int.reduceSub, Int.reduceMul, Int.reduceNeg, iS]))
      · have e : k = row.length := by omega
        subst e
        rw [List.take_length, ← hus]
        have hcd : decide (2 * mand xs row ≤ W) = false := decide_eq_false (by omega)
        (simp (maxSteps := 2000000) (disch := omega) only [go_sem, Nat.reduceEqDiff, Nat.reduceAdd, Nat.reduceMul, Nat.reduceSub, Int.reduceToNat, Int.reduceAdd, Int.reduceSub, Int.reduceMul, Int.reduceNeg]; repeat ((first | refine vIf_t ?_ | refine vIf_f ?_); simp (maxSteps := 2000000) (disch := omega) only [go_sem, Nat.reduceEqDiff, Nat.reduceAdd, Nat.reduceMul, Nat.reduceSub, Int.reduceToNat, Int.reduceAdd, Int.reduceSub, Int.reduceMul, Int.reduceNeg]))
        (try (simp (maxSteps := 2000000) (disch := omega) only [go_sem, Nat.reduceEqDiff, Nat.reduceAdd, Nat.reduceMul, Nat.reduceSub, Int.reduceToNat, Int.reduceAdd, Int.reduceSub, Int.reduceMul, Int.reduceNeg, hcd]; repeat ((first | refine vIf_t ?_ | refine vIf_f ?_); simp (maxSteps := 2000000) (disch := omega) only [go_sem, Nat.reduceEqDiff, Nat.reduceAdd, Nat.reduceMul, Nat.reduceSub, Int.reduceToNat, Int.reduceAdd, Int.reduceSub, Int.reduceMul, Int.reduceNeg, hcd])))
        cases hwv : wiB LL D i with
        | true =>
          rw [hwv, Bool.true_or] at hwi
          (try (simp (maxSteps := 2000000) (disch := omega) only [go_sem, Nat.reduceEqDiff, Nat.reduceAdd, Nat.reduceMul, Nat.reduceSub, Int.reduceToNat, Int.reduceAdd, Int.reduceSub, Int.reduceMul, Int.reduceNeg, hwv]; repeat ((first | refine vIf_t ?_ | refine vIf_f ?_); simp (maxSteps := 2000000) (disch := omega) only [go_sem, Nat.reduceEqDiff, Nat.reduceAdd, Nat.reduceMul, Nat.reduceSub, Int.reduceToNat, Int.reduceAdd, Int.reduceSub, Int.reduceMul, Int.reduceNeg, hwv])))
          refine again (i + 1) (by omega) (by omega) ?_
          rw [hwi]
          (simp (maxSteps := 2000000) (disch := omega) only [go_sem, Nat.reduceEqDiff, Nat.reduceAdd, Nat.reduceMul, Nat.reduceSub, Int.reduceToNat, Int.reduceAdd, Int.reduceSub, Int.reduceMul, Int.reduceNeg, iS]; repeat ((first | refine vIf_t ?_ | refine vIf_f ?_); simp (maxSteps := 2000000) (disch := omega) only [go_sem, Nat.reduceEqDiff, Nat.reduceAdd, Nat.reduceMul, Nat.reduceSub, Int.reduceToNat, Int.reduceAdd, Int.reduceSub, Int.reduceMul, Int.reduceNeg, iS]))
        | false =>
          rw [hwv, Bool.false_or] at hwi
          (try (simp (maxSteps := 2000000) (disch := omega) only [go_sem, Nat.reduceEqDiff, Nat.reduceAdd, Nat.reduceMul, Nat.reduceSub, Int.reduceToNat, Int.reduceAdd, Int.reduceSub, Int.reduceMul, Int.reduceNeg, hwv]; repeat ((first | refine vIf_t ?_ | refine vIf_f ?_); simp (maxSteps := 2000000) (disch := omega) only [go_sem, Nat.reduceEqDiff, Nat.reduceAdd, Nat.reduceMul, Nat.reduceSub, Int.reduceToNat, Int.reduceAdd, Int.reduceSub, Int.reduceMul, Int.reduceNeg, hwv])))
          refine again (i + 1) (by omega) (by omega) ?_
          rw [hwi]
          (simp (maxSteps := 2000000) (disch := omega) only [go_sem, Nat.reduceEqDiff, Nat.reduceAdd, Nat.reduceMul, Nat.reduceSub, Int.reduceToNat, Int.reduceAdd, Int.reduceSub, Int.reduceMul, Int.reduceNeg, iS]; repeat ((first | refine vIf_t ?_ | refine vIf_f ?_); simp (maxSteps := 2000000) (disch := omega) only [go_sem, Nat.reduceEqDiff, Nat.reduceAdd, Nat.reduceMul, Nat.reduceSub, Int.reduceToNat, Int.reduceAdd, Int.reduceSub, Int.reduceMul, Int.reduceNeg, iS]))
    · have e : i = LL.length := by omega
      subst e
      (simp (maxSteps := 2000000) (disch := omega) only [go_sem, Nat.reduceEqDiff, Nat.reduceAdd, Nat.reduceMul, Nat.reduceSub, Int.reduceToNat, Int.reduceAdd, Int.reduceSub, Int.reduceMul, Int.reduceNeg]; repeat ((first | refine vIf_t ?_ | refine vIf_f ?_); simp (maxSteps := 2000000) (disch := omega) only [go_sem, Nat.reduceEqDiff, Nat.reduceAdd, Nat.reduceMul, Nat.reduceSub, Int.reduceToNat, Int.reduceAdd, Int.reduceSub, Int.reduceMul, Int.reduceNeg]))
      refine vcLoop_inv (fun i : Nat => i ≤ xs.length) (fun i => ⟨225, 0, [(23, I i), (8, .ref 2 0 xs.length), (18, .ref 4 0 xs.length), (14, B isB), (17, B (wiB LL D LL.length)), (5, iS xs)], [none, some ⟨1, rws LL⟩, oI sws, oI D, some ⟨1, bls (usd xs.length (usL LL LL.length))⟩]⟩) (fun i => xs.length - i) 0 (by omega) (by (simp (maxSteps := 2000000) (disch := omega) only [go_sem, Nat.reduceEqDiff, Nat.reduceAdd, Nat.reduceMul, Nat.reduceSub, Int.reduceToNat, Int.reduceAdd, Int.reduceSub, Int.reduceMul, Int.reduceNeg, iS]; repeat ((first | refine vIf_t ?_ | refine vIf_f ?_); simp (maxSteps := 2000000) (disch := omega) only [go_sem, Nat.reduceEqDiff, Nat.reduceAdd, Nat.reduceMul, Nat.reduceSub, Int.reduceToNat, Int.reduceAdd, Int.reduceSub, Int.reduceMul, Int.reduceNeg, iS]))) ?_
      intro i hi
      unfold iS
      (simp (maxSteps := 2000000) (disch := omega) only [go_sem, Nat.reduceEqDiff, Nat.reduceAdd, Nat.reduceMul, Nat.reduceSub, Int.reduceToNat, Int.reduceAdd, Int.reduceSub, Int.reduceMul, Int.reduceNeg]; repeat ((first | refine vIf_t ?_ | refine vIf_f ?_); simp (maxSteps := 2000000) (disch := omega) only [go_sem, Nat.reduceEqDiff, Nat.reduceAdd, Nat.reduceMul, Nat.reduceSub, Int.reduceToNat, Int.reduceAdd, Int.reduceSub, Int.reduceMul, Int.reduceNeg]))
      refine vIf_dec (fun hc2 => ?_) (fun hc2 => ?_)
      · have hil : i < xs.length := by omega
        obtain ⟨hs1, hs2⟩ := F.swi i hil
        have hul := usd_len xs.length (usL LL LL.length)
        have hug := usd_get xs.length (usL LL LL.length) i hil
        have hug2 : gb (usd xs.length (usL LL LL.length)) i = decide (0 < gi sws i) := by
          rw [hug]; exact decide_eq_decide.2 hs2.symm
        have hs1b : decide (gi sws i < 0) = false := decide_eq_false (by omega)
        (simp (maxSteps := 2000000) (disch := omega) only [go_sem, Nat.reduceEqDiff, Nat.reduceAdd, Nat.reduceMul, Nat.reduceSub, Int.reduceToNat, Int.reduceAdd, Int.reduceSub, Int.reduceMul, Int.reduceNeg]; repeat ((first | refine vIf_t ?_ | refine vIf_f ?_); simp (maxSteps := 2000000) (disch := omega) only [go_sem, Nat.reduceEqDiff, Nat.reduceAdd, Nat.reduceMul, Nat.reduceSub, Int.reduceToNat, Int.reduceAdd, Int.reduceSub, Int.reduceMul, Int.reduceNeg]))
        (refine vDraw_sch 13 [0, 1, 2, 3, 4, 5, 6, 7, 8, 9, 10, 11, 12] mixed (by kernel_rfl) ?_; simp only [List.map_cons, List.map_nil, nthO_zero, nthO_succ, List.drop_succ_cons, List.drop_zero, List.drop_nil]; (simp (maxSteps := 2000000) (disch := omega) only [go_sem, Nat.reduceEqDiff, Nat.reduceAdd, Nat.reduceMul, Nat.reduceSub, Int.reduceToNat, Int.reduceAdd, Int.reduceSub, Int.reduceMul, Int.reduceNeg]; repeat ((first | refine vIf_t ?_ | refine vIf_f ?_); simp (maxSteps := 2000000) (disch := omega) only [go_sem, Nat.reduceEqDiff, Nat.reduceAdd, Nat.reduceMul, Nat.reduceSub, Int.reduceToNat, Int.reduceAdd, Int.reduceSub, Int.reduceMul, Int.reduceNeg])))
        (try (simp (maxSteps := 2000000) (disch := omega) only [go_sem, Nat.reduceEqDiff, Nat.reduceAdd, Nat.reduceMul, Nat.reduceSub, Int.reduceToNat, Int.reduceAdd, Int.reduceSub, Int.reduceMul, Int.reduceNeg, hug2, Bool.not_true, hs1b]; repeat ((first | refine vIf_t ?_ | refine vIf_f ?_); simp (maxSteps := 2000000) (disch := omega) only [go_sem, Nat.reduceEqDiff, Nat.reduceAdd, Nat.reduceMul, Nat.reduceSub, Int.reduceToNat, Int.reduceAdd, Int.reduceSub, Int.reduceMul, Int.reduceNeg, hug2, Bool.not_true, hs1b])))
        refine again (i + 1) (by omega) (by omega) ?_
        (simp (maxSteps := 2000000) (disch := omega) only [go_sem, Nat.reduceEqDiff, Nat.reduceAdd, Nat.reduceMul, Nat.reduceSub, Int.reduceToNat, Int.reduceAdd, Int.reduceSub, Int.reduceMul, Int.reduceNeg, iS]; repeat ((first | refine vIf_t ?_ | refine vIf_f ?_); simp (maxSteps := 2000000) (disch := omega) only [go_sem, Nat.reduceEqDiff, Nat.reduceAdd, Nat.reduceMul, Nat.reduceSub, Int.reduceToNat, Int.reduceAdd, Int.reduceSub, Int.reduceMul, Int.reduceNeg, iS]))
      · (simp (maxSteps := 2000000) (disch := omega) only [go_sem, Nat.reduceEqDiff, Nat.reduceAdd, Nat.reduceMul, Nat.reduceSub, Int.reduceToNat, Int.reduceAdd, Int.reduceSub, Int.reduceMul, Int.reduceNeg]; repeat ((first | refine vIf_t ?_ | refine vIf_f ?_); simp (maxSteps := 2000000) (disch := omega) only [go_sem, Nat.reduceEqDiff, Nat.reduceAdd, Nat.reduceMul, Nat.reduceSub, Int.reduceToNat, Int.reduceAdd, Int.reduceSub, Int.reduceMul, Int.reduceNeg]))
        (refine retK_of ?_; (simp (maxSteps := 2000000) (disch := omega) only [go_sem, Nat.reduceEqDiff, Nat.reduceAdd, Nat.reduceMul, Nat.reduceSub, Int.reduceToNat, Int.reduceAdd, Int.reduceSub, Int.reduceMul, Int.reduceNeg]; repeat ((first | refine vIf_t ?_ | refine vIf_f ?_); simp (maxSteps := 2000000) (disch := omega) only [go_sem, Nat.reduceEqDiff, Nat.reduceAdd, Nat.reduceMul, Nat.reduceSub, Int.reduceToNat, Int.reduceAdd, Int.reduceSub, Int.reduceMul, Int.reduceNeg])))
        rw [F.win]
        simp)
end Go.Proofs.Ytkgfpephkinocaa

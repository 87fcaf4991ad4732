/- duties: shares, the divided dike, unfair duties, numbers of parts -/
import Derived.Test.YthnphcinjchloaaDut2
import Derived.Test.YthnphcinjchloaaShr4
set_option linter.unusedVariables false
set_option linter.unusedSimpArgs false
namespace Go.Proofs.Ythnphcinjchloaa
open Go.AG Go.Lib

theorem ext_gi {xs ys : List Int} (h : xs.length = ys.length) (he : ∀ i, i < xs.length → gi xs i = gi ys i) : xs = ys := by
  refine List.ext_getElem h fun i h1 h2 => ?_
  rw [← gi_lt xs i h1, ← gi_lt ys i h2]
  exact he i h1
theorem gi_rmap (f : Nat → Int) (n i : Nat) (h : i < n) : gi ((List.range n).map f) i = f i := by
  simp [gi, h]
theorem sumI_sub {α : Type} (f g : α → Int) (xs : List α) : sumI (xs.map fun x => f x - g x) = sumI (xs.map f) - sumI (xs.map g) := by
  induction xs with
  | nil => simp [sumI_nil]
  | cons x r ih => simp only [List.map_cons, sumI_cons, ih]; omega
/-! the shares of a dike -/
structure ShF (sh : List Int) (L : Int) : Prop where
  n : sh.length = 40
  nn : ∀ i, i < 40 → 0 ≤ gi sh i
  s : sumI sh = L
  l : 1 ≤ L ∧ L ≤ 300000
def sp (sh : List Int) (k : Nat) : Int := sumI (sh.take k)
@[go_sem] theorem sp_zero (sh : List Int) : sp sh 0 = 0 := by simp [sp, sumI_nil]
theorem sp_succ (sh : List Int) (k : Nat) (h : k < sh.length) : sp sh (k + 1) = sp sh k + gi sh k := by
  unfold sp
  rw [take_succ_gi _ _ h, sumI_append, sumI_cons, sumI_nil]; omega
theorem ShF.bd {sh : List Int} {L : Int} (F : ShF sh L) (k : Nat) (hk : k ≤ 40) : 0 ≤ sp sh k ∧ sp sh k ≤ L := by
  have hm : ∀ x ∈ sh, 0 ≤ x := fun x hx => by
    obtain ⟨i, hi, rfl⟩ := List.mem_iff_getElem.1 hx
    rw [← gi_lt sh i hi]; exact F.nn i (by rw [← F.n]; exact hi)
  have h1 := (mem_le_sum (sh.take k) fun x hx => hm x (List.mem_of_mem_take hx)).1
  have h2 := (mem_le_sum (sh.drop k) fun x hx => hm x (List.mem_of_mem_drop hx)).1
  have h3 : sumI (sh.take k ++ sh.drop k) = sumI (sh.take k) + sumI (sh.drop k) := sumI_append _ _
  rw [List.take_append_drop, F.s] at h3
  unfold sp
  omega
theorem ShF.le {sh : List Int} {L : Int} (F : ShF sh L) (i : Nat) (hi : i < 40) : gi sh i ≤ 300000 := by
  have h1 := F.bd i (by omega)
  have h2 := F.bd (i + 1) (by omega)
  have := sp_succ sh i (by rw [F.n]; exact hi)
  have := F.l
  omega
theorem arO_sh {ps : List Pc} (h : okP ps = true) (hn : 0 < ps.length) (L : Int) (hL : 1 ≤ L ∧ L ≤ 300000) : ShOk L (arO ps) := by
  obtain ⟨h1, h2, _⟩ := okP_all h
  have hv := acc_val Pc.owner Pc.area 40 10000000 (by omega) ps (fun p hp => by have := (h2 p hp).2.1; omega) (fun p hp => by have := (h2 p hp).2.2.1; omega) (by omega)
  have hs : sumI (arO ps) = sumI (ps.map Pc.area) := hv.2
  have hp0 : 0 < sumI (ps.map Pc.area) := by
    have hm := gPc_mem ps 0 hn
    have := (mem_le_sum (ps.map Pc.area) (fun x hx => by obtain ⟨p, hp, rfl⟩ := List.mem_map.1 hx; have := (h2 p hp).2.2.1; omega)).2 (gPc ps 0).area (List.mem_map.2 ⟨_, hm, rfl⟩)
    have := (h2 _ hm).2.2.1
    omega
  refine ⟨by omega, fun x hx => ?_, by rw [arO_len]; omega, by omega⟩
  obtain ⟨j, hj, rfl⟩ := List.mem_iff_getElem.1 hx
  rw [← gi_lt _ _ hj]
  have hj4 : j < 40 := by rw [arO_len] at hj; exact hj
  have e : gi (arO ps) j = sumI ((ps.filter fun p => decide (p.owner = (j : Int))).map Pc.area) := hv.1 j hj4
  rw [e]
  have := sumI_map_bd Pc.area 10000000 (by omega) (ps.filter fun p => decide (p.owner = (j : Int))) (fun p hp => by have := (h2 p (List.mem_filter.1 hp).1).2.2.1; omega)
  have := List.length_filter_le (fun p : Pc => decide (p.owner = (j : Int))) ps
  omega
@[go_sem] theorem take_arO (ps : List Pc) : (arO ps).take 40 = arO ps := List.take_of_length_le (by rw [arO_len]; omega)
def shD (ps : List Pc) (L : Int) : List Int := shV L (arO ps)
theorem shD_ok {ps : List Pc} (h : okP ps = true) (hn : 0 < ps.length) (L : Int) (hL : 1 ≤ L ∧ L ≤ 300000) : ShF (shD ps L) L := by
  have S := arO_sh h hn L hL
  have hs := sh_ok S
  have hlen : (arO ps).length = 40 := arO_len ps
  refine ⟨by unfold shD; rw [shV_len, hlen], fun i hi => ?_, hs.1, hL⟩
  have hb := mul_bd L _ S.t (S.wi i)
  have h3 := Int.ediv_nonneg hb.1 (show 0 ≤ sumI (arO ps) by have := S.s; omega)
  unfold shD
  rcases hs.2 i (by omega) with h5 | ⟨h5, _⟩ <;> omega
theorem shares_ok (ps : List Pc) (h : okP ps = true) (hn : 0 < ps.length) (L : Int) (hL : 1 ≤ L ∧ L ≤ 300000) : ACalls Try.prog 105 [I L, .sl 40 (ints (arO ps))] [] (fun r o => r = .ref 0 0 40 ∧ o = [oI (shD ps L)]) := by
  have := shareOut_ok L (arO ps) (arO_sh h hn L hL) (by rw [arO_len]; omega)
  unfold iS at this
  rw [arO_len] at this
  exact this
theorem l21Shares_ok (ps : List Pc) (h : okP ps = true) (hn : 0 < ps.length) (L : Int) (hL : 1 ≤ L ∧ L ≤ 300000) : ACalls Try.prog 119 [.sl ps.length (cPc ps), I L] [] (fun r o => r = .ref 0 0 40 ∧ o = [oI (shD ps L)]) := by
  have S := arO_sh h hn L hL
  have h1 := l02Share_ok L (arO ps) S (by rw [arO_len]; omega)
  have h2 := sumS_ok (arO ps) (by rw [arO_len]; omega)
  have e : wsum (arO ps) = sumI (arO ps) := (wsum_eq _ 1000000000 (by omega) (fun x hx => by have := S.w x hx; omega) (by rw [arO_len]; omega)).1
  rw [e] at h2
  unfold iS at h1 h2
  rw [arO_len] at h1 h2
  unfold shD
  refine ACalls.of_vc Try.func119 rfl (by decide) 13 rfl [.tmp 4] rfl (by simp) ?_
  (repeat (first | simp (maxSteps := 2000000) (disch := omega) only [go_sem, ↓reduceIte, Nat.reduceEqDiff, Nat.reduceAdd, Nat.reduceMul, Nat.reduceSub, Int.reduceToNat, Int.reduceAdd, Int.reduceSub, Int.reduceMul, Int.reduceNeg] | with_reducible refine vIf_t ?_ | with_reducible refine vIf_f ?_))
  (refine vCallX_of ?_; (repeat (first | simp (maxSteps := 2000000) (disch := omega) only [go_sem, ↓reduceIte, Nat.reduceEqDiff, Nat.reduceAdd, Nat.reduceMul, Nat.reduceSub, Int.reduceToNat, Int.reduceAdd, Int.reduceSub, Int.reduceMul, Int.reduceNeg] | with_reducible refine vIf_t ?_ | with_reducible refine vIf_f ?_)); refine vCall_eq (l19Areas_ok ps h) (by simp (disch := omega) only [go_sem, Nat.reduceAdd]) rfl (by first | exact Or.inl rfl | exact Or.inr ⟨rfl, rfl⟩ | (apply Or.inr; simp only [go_sem])) ?_; (repeat (first | simp (maxSteps := 2000000) (disch := omega) only [go_sem, ↓reduceIte, Nat.reduceEqDiff, Nat.reduceAdd, Nat.reduceMul, Nat.reduceSub, Int.reduceToNat, Int.reduceAdd, Int.reduceSub, Int.reduceMul, Int.reduceNeg] | with_reducible refine vIf_t ?_ | with_reducible refine vIf_f ?_)))
  (repeat (first | simp (maxSteps := 2000000) (disch := omega) only [go_sem, ↓reduceIte, Nat.reduceEqDiff, Nat.reduceAdd, Nat.reduceMul, Nat.reduceSub, Int.reduceToNat, Int.reduceAdd, Int.reduceSub, Int.reduceMul, Int.reduceNeg] | with_reducible refine vIf_t ?_ | with_reducible refine vIf_f ?_))
  (refine vCallX_fz 0 _ rfl (by (repeat (first | simp (maxSteps := 2000000) (disch := omega) only [go_sem, ↓reduceIte, Nat.reduceEqDiff, Nat.reduceAdd, Nat.reduceMul, Nat.reduceSub, Int.reduceToNat, Int.reduceAdd, Int.reduceSub, Int.reduceMul, Int.reduceNeg] | with_reducible refine vIf_t ?_ | with_reducible refine vIf_f ?_))) ?_; (repeat (first | simp (maxSteps := 2000000) (disch := omega) only [go_sem, ↓reduceIte, Nat.reduceEqDiff, Nat.reduceAdd, Nat.reduceMul, Nat.reduceSub, Int.reduceToNat, Int.reduceAdd, Int.reduceSub, Int.reduceMul, Int.reduceNeg] | with_reducible refine vIf_t ?_ | with_reducible refine vIf_f ?_)))
  (refine vCallX_of ?_; (repeat (first | simp (maxSteps := 2000000) (disch := omega) only [go_sem, ↓reduceIte, Nat.reduceEqDiff, Nat.reduceAdd, Nat.reduceMul, Nat.reduceSub, Int.reduceToNat, Int.reduceAdd, Int.reduceSub, Int.reduceMul, Int.reduceNeg] | with_reducible refine vIf_t ?_ | with_reducible refine vIf_f ?_)); refine vCall_eq (h2) (by simp (disch := omega) only [go_sem, Nat.reduceAdd]) rfl (by first | exact Or.inl rfl | exact Or.inr ⟨rfl, rfl⟩ | (apply Or.inr; simp only [go_sem])) ?_; (repeat (first | simp (maxSteps := 2000000) (disch := omega) only [go_sem, ↓reduceIte, Nat.reduceEqDiff, Nat.reduceAdd, Nat.reduceMul, Nat.reduceSub, Int.reduceToNat, Int.reduceAdd, Int.reduceSub, Int.reduceMul, Int.reduceNeg] | with_reducible refine vIf_t ?_ | with_reducible refine vIf_f ?_)))
  (refine vCallX_of ?_; (repeat (first | simp (maxSteps := 2000000) (disch := omega) only [go_sem, ↓reduceIte, Nat.reduceEqDiff, Nat.reduceAdd, Nat.reduceMul, Nat.reduceSub, Int.reduceToNat, Int.reduceAdd, Int.reduceSub, Int.reduceMul, Int.reduceNeg] | with_reducible refine vIf_t ?_ | with_reducible refine vIf_f ?_)); refine vCall_eq (h1) (by simp (disch := omega) only [go_sem, Nat.reduceAdd]) rfl (by first | exact Or.inl rfl | exact Or.inr ⟨rfl, rfl⟩ | (apply Or.inr; simp only [go_sem])) ?_; (repeat (first | simp (maxSteps := 2000000) (disch := omega) only [go_sem, ↓reduceIte, Nat.reduceEqDiff, Nat.reduceAdd, Nat.reduceMul, Nat.reduceSub, Int.reduceToNat, Int.reduceAdd, Int.reduceSub, Int.reduceMul, Int.reduceNeg] | with_reducible refine vIf_t ?_ | with_reducible refine vIf_f ?_)))
  (refine retK_of ?_; (repeat (first | simp (maxSteps := 2000000) (disch := omega) only [go_sem, ↓reduceIte, Nat.reduceEqDiff, Nat.reduceAdd, Nat.reduceMul, Nat.reduceSub, Int.reduceToNat, Int.reduceAdd, Int.reduceSub, Int.reduceMul, Int.reduceNeg] | with_reducible refine vIf_t ?_ | with_reducible refine vIf_f ?_)))
/-! the divided dike -/
def dvL (sh : List Int) : Nat → List Du
  | 0 => []
  | k + 1 => dvL sh k ++ (if 0 < gi sh k then [⟨k, sp sh k, sp sh k + gi sh k⟩] else [])
@[go_sem] theorem dvL_zero (sh : List Int) : dvL sh 0 = [] := _root_.id rfl
theorem dvL_len (sh : List Int) (k : Nat) : (dvL sh k).length ≤ k := by
  induction k with
  | zero => simp [dvL]
  | succ k ih => simp only [dvL, List.length_append]; split <;> simp <;> omega
theorem atD_app (ds es : List Du) (k : Nat) (h : k ≤ ds.length) : atD (ds ++ es) k = atD ds k := by
  unfold atD
  split
  · rfl
  · rw [gDu_app_l _ _ _ (by omega)]
theorem doK_app (ds es : List Du) (o : Int) (k : Nat) (h : k ≤ ds.length) : doK (ds ++ es) o k = doK ds o k := by
  induction k with
  | zero => rfl
  | succ k ih => simp only [doK]; rw [ih (by omega), gDu_app_l _ _ _ (by omega)]
structure DvP (sh : List Int) (ds : List Du) (k : Nat) : Prop where
  e : atD ds ds.length = sp sh k
  p : ∀ j, j < ds.length → duP ds j
  o : ∀ j, j < ds.length → (gDu ds j).owner < k ∧ (gDu ds j).tw - (gDu ds j).fr = gi sh (gDu ds j).owner.toNat
  d : ∀ i : Nat, doK ds i ds.length = if i < k then gi sh i else 0
theorem dvP_ok {sh : List Int} {L : Int} (F : ShF sh L) (k : Nat) (hk : k ≤ 40) : DvP sh (dvL sh k) k := by
  induction k with
  | zero => exact ⟨by simp [dvL, atD_zero, sp_zero], fun j hj => by simp [dvL] at hj, fun j hj => by simp [dvL] at hj, fun i => by simp [dvL, doK]⟩
  | succ k ih =>
    have P := ih (by omega)
    have hnn := F.nn k (by omega)
    have hsp := sp_succ sh k (by rw [F.n]; omega)
    simp only [dvL]
    by_cases h0 : 0 < gi sh k
    · rw [if_pos h0]
      generalize hds : dvL sh k = ds at *
      have hg : gDu (ds ++ [⟨k, sp sh k, sp sh k + gi sh k⟩]) ds.length = ⟨k, sp sh k, sp sh k + gi sh k⟩ := by rw [gDu_app_r _ _ _ (Nat.le_refl _)]; simp [gDu]
      have hl : (ds ++ [(⟨k, sp sh k, sp sh k + gi sh k⟩ : Du)]).length = ds.length + 1 := by simp
      refine ⟨?_, fun j hj => ?_, fun j hj => ?_, fun i => ?_⟩
      · rw [hl, atD_succ, hg]; simp only; omega
      · rw [hl] at hj
        by_cases e : j = ds.length
        · unfold duP
          rw [e, atD_app _ _ _ (Nat.le_refl _), hg, P.e]
          exact ⟨⟨by simp only; omega, by simp only; omega⟩, rfl, by simp only; omega⟩
        · have := P.p j (by omega)
          unfold duP at this ⊢
          rw [atD_app _ _ _ (by omega), gDu_app_l _ _ _ (by omega)]
          exact this
      · rw [hl] at hj
        by_cases e : j = ds.length
        · rw [e, hg]
          simp only [Int.toNat_natCast]
          omega
        · have := P.o j (by omega)
          rw [gDu_app_l _ _ _ (by omega)]
          omega
      · rw [hl]
        simp only [doK]
        rw [doK_app _ _ _ _ (Nat.le_refl _), P.d, hg]
        simp only
        by_cases e : i = k
        · subst e; rw [if_pos rfl, if_neg (by omega), if_pos (by omega)]; omega
        · rw [if_neg (show ¬ (k : Int) = i by omega)]
          by_cases e2 : i < k
          · rw [if_pos e2, if_pos (by omega)]; omega
          · rw [if_neg e2, if_neg (by omega)]; omega
    · rw [if_neg h0, List.append_nil]
      have hz : gi sh k = 0 := by omega
      refine ⟨by rw [P.e]; omega, P.p, fun j hj => by have := P.o j hj; omega, fun i => ?_⟩
      rw [P.d]
      by_cases e : i = k
      · subst e; simp [hz]
      · by_cases e2 : i < k
        · rw [if_pos e2, if_pos (by omega)]
        · rw [if_neg e2, if_neg (by omega)]
theorem dv_VD {sh : List Int} {L : Int} (F : ShF sh L) : VD (dvL sh 40) L := by
  have P := dvP_ok F 40 (Nat.le_refl _)
  have hl := dvL_len sh 40
  have hs : sp sh 40 = L := by unfold sp; rw [List.take_of_length_le (by rw [F.n]; omega), F.s]
  have he := P.e
  rw [hs] at he
  refine ⟨F.l, ⟨?_, hl⟩, he, P.p⟩
  apply Nat.le_of_not_lt; intro g
  rw [show (dvL sh 40).length = 0 by omega, atD_zero] at he
  have := F.l
  omega
def ddC (ps : List Pc) (L : Int) : Int := if okP ps = true then if 1 ≤ L ∧ L ≤ 300000 then if ps.length = 0 then 3 else 0 else 2 else 1
theorem ddC_ok {ps : List Pc} {L : Int} (h : ddC ps L = 0) : okP ps = true ∧ (1 ≤ L ∧ L ≤ 300000) ∧ 0 < ps.length := by
  unfold ddC at h
  split at h
  case isFalse => omega
  rename_i h1
  split at h
  case isFalse => omega
  rename_i h2
  split at h
  · omega
  · exact ⟨h1, h2, by omega⟩
set_option maxHeartbeats 4000000 in
theorem divideD_ok (ps : List Pc) (L : Int) (hl : ps.length ≤ 10000000) : ACalls Try.prog 42 [.sl ps.length (cPc ps), I L] []
    (fun r o => if ddC ps L = 0 then r = .tup [.ref 0 0 (dvL (shD ps L) 40).length, I 0] ∧ o = [some ⟨3, cDu (dvL (shD ps L) 40)⟩] else r = .tup [.ref 0 0 0, I (ddC ps L)] ∧ o = [some ⟨3, []⟩]) := by
  refine ACalls.of_vc Try.func42 rfl (by decide) 52 rfl [.tmp 4, .tmp 5] rfl (by simp) ?_
  (repeat (first | simp (maxSteps := 2000000) (disch := omega) only [go_sem, ↓reduceIte, Nat.reduceEqDiff, Nat.reduceAdd, Nat.reduceMul, Nat.reduceSub, Int.reduceToNat, Int.reduceAdd, Int.reduceSub, Int.reduceMul, Int.reduceNeg] | with_reducible refine vIf_t ?_ | with_reducible refine vIf_f ?_))
  (refine vCallX_of ?_; (repeat (first | simp (maxSteps := 2000000) (disch := omega) only [go_sem, ↓reduceIte, Nat.reduceEqDiff, Nat.reduceAdd, Nat.reduceMul, Nat.reduceSub, Int.reduceToNat, Int.reduceAdd, Int.reduceSub, Int.reduceMul, Int.reduceNeg] | with_reducible refine vIf_t ?_ | with_reducible refine vIf_f ?_)); refine vCall_eq (validP_ok ps hl) (by simp (disch := omega) only [go_sem, Nat.reduceAdd]) rfl (by first | exact Or.inl rfl | exact Or.inr ⟨rfl, rfl⟩ | (apply Or.inr; simp only [go_sem])) ?_; (repeat (first | simp (maxSteps := 2000000) (disch := omega) only [go_sem, ↓reduceIte, Nat.reduceEqDiff, Nat.reduceAdd, Nat.reduceMul, Nat.reduceSub, Int.reduceToNat, Int.reduceAdd, Int.reduceSub, Int.reduceMul, Int.reduceNeg] | with_reducible refine vIf_t ?_ | with_reducible refine vIf_f ?_)))
  cases hok : okP ps with
  | false =>
    have ec : ddC ps L = 1 := by simp [ddC, hok]
    (repeat (first | simp (maxSteps := 2000000) (disch := omega) only [go_sem, ↓reduceIte, Nat.reduceEqDiff, Nat.reduceAdd, Nat.reduceMul, Nat.reduceSub, Int.reduceToNat, Int.reduceAdd, Int.reduceSub, Int.reduceMul, Int.reduceNeg, hok] | with_reducible refine vIf_t ?_ | with_reducible refine vIf_f ?_))
    (refine retK_of ?_; (repeat (first | simp (maxSteps := 2000000) (disch := omega) only [go_sem, ↓reduceIte, Nat.reduceEqDiff, Nat.reduceAdd, Nat.reduceMul, Nat.reduceSub, Int.reduceToNat, Int.reduceAdd, Int.reduceSub, Int.reduceMul, Int.reduceNeg] | with_reducible refine vIf_t ?_ | with_reducible refine vIf_f ?_)))
    rw [ec]; simp
  | true =>
    (repeat (first | simp (maxSteps := 2000000) (disch := omega) only [go_sem, ↓reduceIte, Nat.reduceEqDiff, Nat.reduceAdd, Nat.reduceMul, Nat.reduceSub, Int.reduceToNat, Int.reduceAdd, Int.reduceSub, Int.reduceMul, Int.reduceNeg, hok] | with_reducible refine vIf_t ?_ | with_reducible refine vIf_f ?_))
    (refine vCallX_of ?_; (repeat (first | simp (maxSteps := 2000000) (disch := omega) only [go_sem, ↓reduceIte, Nat.reduceEqDiff, Nat.reduceAdd, Nat.reduceMul, Nat.reduceSub, Int.reduceToNat, Int.reduceAdd, Int.reduceSub, Int.reduceMul, Int.reduceNeg] | with_reducible refine vIf_t ?_ | with_reducible refine vIf_f ?_)); refine vCall_eq (dkLen_ok L) (by simp (disch := omega) only [go_sem, Nat.reduceAdd]) rfl (by first | exact Or.inl rfl | exact Or.inr ⟨rfl, rfl⟩ | (apply Or.inr; simp only [go_sem])) ?_; (repeat (first | simp (maxSteps := 2000000) (disch := omega) only [go_sem, ↓reduceIte, Nat.reduceEqDiff, Nat.reduceAdd, Nat.reduceMul, Nat.reduceSub, Int.reduceToNat, Int.reduceAdd, Int.reduceSub, Int.reduceMul, Int.reduceNeg] | with_reducible refine vIf_t ?_ | with_reducible refine vIf_f ?_)))
    by_cases h2 : 1 ≤ L ∧ L ≤ 300000
    · have h2b : decide (1 ≤ L ∧ L ≤ 300000) = true := decide_eq_true h2
      (repeat (first | simp (maxSteps := 2000000) (disch := omega) only [go_sem, ↓reduceIte, Nat.reduceEqDiff, Nat.reduceAdd, Nat.reduceMul, Nat.reduceSub, Int.reduceToNat, Int.reduceAdd, Int.reduceSub, Int.reduceMul, Int.reduceNeg, h2b] | with_reducible refine vIf_t ?_ | with_reducible refine vIf_f ?_))
      refine vIf_beq (fun h3 => ?_) (fun h3 => ?_)
      · have ec : ddC ps L = 3 := by rw [ddC, if_pos hok, if_pos h2, if_pos (by omega)]
        (repeat (first | simp (maxSteps := 2000000) (disch := omega) only [go_sem, ↓reduceIte, Nat.reduceEqDiff, Nat.reduceAdd, Nat.reduceMul, Nat.reduceSub, Int.reduceToNat, Int.reduceAdd, Int.reduceSub, Int.reduceMul, Int.reduceNeg] | with_reducible refine vIf_t ?_ | with_reducible refine vIf_f ?_))
        (refine retK_of ?_; (repeat (first | simp (maxSteps := 2000000) (disch := omega) only [go_sem, ↓reduceIte, Nat.reduceEqDiff, Nat.reduceAdd, Nat.reduceMul, Nat.reduceSub, Int.reduceToNat, Int.reduceAdd, Int.reduceSub, Int.reduceMul, Int.reduceNeg] | with_reducible refine vIf_t ?_ | with_reducible refine vIf_f ?_)))
        rw [ec]; simp
      · have ec : ddC ps L = 0 := by rw [ddC, if_pos hok, if_pos h2, if_neg (by omega)]
        have hn : 0 < ps.length := by omega
        have F := shD_ok hok hn L h2
        (repeat (first | simp (maxSteps := 2000000) (disch := omega) only [go_sem, ↓reduceIte, Nat.reduceEqDiff, Nat.reduceAdd, Nat.reduceMul, Nat.reduceSub, Int.reduceToNat, Int.reduceAdd, Int.reduceSub, Int.reduceMul, Int.reduceNeg] | with_reducible refine vIf_t ?_ | with_reducible refine vIf_f ?_))
        (refine vCallX_of ?_; (repeat (first | simp (maxSteps := 2000000) (disch := omega) only [go_sem, ↓reduceIte, Nat.reduceEqDiff, Nat.reduceAdd, Nat.reduceMul, Nat.reduceSub, Int.reduceToNat, Int.reduceAdd, Int.reduceSub, Int.reduceMul, Int.reduceNeg] | with_reducible refine vIf_t ?_ | with_reducible refine vIf_f ?_)); refine vCall_eq (areasO_ok ps hok) (by simp (disch := omega) only [go_sem, Nat.reduceAdd]) rfl (by first | exact Or.inl rfl | exact Or.inr ⟨rfl, rfl⟩ | (apply Or.inr; simp only [go_sem])) ?_; (repeat (first | simp (maxSteps := 2000000) (disch := omega) only [go_sem, ↓reduceIte, Nat.reduceEqDiff, Nat.reduceAdd, Nat.reduceMul, Nat.reduceSub, Int.reduceToNat, Int.reduceAdd, Int.reduceSub, Int.reduceMul, Int.reduceNeg] | with_reducible refine vIf_t ?_ | with_reducible refine vIf_f ?_)))
        (refine vCallX_fz 1 _ rfl (by (repeat (first | simp (maxSteps := 2000000) (disch := omega) only [go_sem, ↓reduceIte, Nat.reduceEqDiff, Nat.reduceAdd, Nat.reduceMul, Nat.reduceSub, Int.reduceToNat, Int.reduceAdd, Int.reduceSub, Int.reduceMul, Int.reduceNeg] | with_reducible refine vIf_t ?_ | with_reducible refine vIf_f ?_))) ?_; (repeat (first | simp (maxSteps := 2000000) (disch := omega) only [go_sem, ↓reduceIte, Nat.reduceEqDiff, Nat.reduceAdd, Nat.reduceMul, Nat.reduceSub, Int.reduceToNat, Int.reduceAdd, Int.reduceSub, Int.reduceMul, Int.reduceNeg] | with_reducible refine vIf_t ?_ | with_reducible refine vIf_f ?_)))
        (refine vCallX_of ?_; (repeat (first | simp (maxSteps := 2000000) (disch := omega) only [go_sem, ↓reduceIte, Nat.reduceEqDiff, Nat.reduceAdd, Nat.reduceMul, Nat.reduceSub, Int.reduceToNat, Int.reduceAdd, Int.reduceSub, Int.reduceMul, Int.reduceNeg] | with_reducible refine vIf_t ?_ | with_reducible refine vIf_f ?_)); refine vCall_eq (shares_ok ps hok hn L h2) (by simp (disch := omega) only [go_sem, Nat.reduceAdd]) rfl (by first | exact Or.inl rfl | exact Or.inr ⟨rfl, rfl⟩ | (apply Or.inr; simp only [go_sem])) ?_; (repeat (first | simp (maxSteps := 2000000) (disch := omega) only [go_sem, ↓reduceIte, Nat.reduceEqDiff, Nat.reduceAdd, Nat.reduceMul, Nat.reduceSub, Int.reduceToNat, Int.reduceAdd, Int.reduceSub, Int.reduceMul, Int.reduceNeg] | with_reducible refine vIf_t ?_ | with_reducible refine vIf_f ?_)))
        have hsl := F.n
        rw [ec]
        generalize shD ps L = sh at *
        refine vcLoop_invF (fun k : Nat => k ≤ 40) (fun k => ⟨52, 0, [(31, I k), (7, I (sp sh k)), (6, .ref 0 0 (dvL sh k).length), (29, .ref 1 0 40), (30, I 40)], [some ⟨3, cDu (dvL sh k)⟩, oI sh]⟩) (fun k => 40 - k) 0 (by omega) (by (first | (refine leF_s ?_; ((repeat (first | simp (maxSteps := 2000000) (disch := omega) only [go_sem, ↓reduceIte, Nat.reduceEqDiff, Nat.reduceAdd, Nat.reduceMul, Nat.reduceSub, Int.reduceToNat, Int.reduceAdd, Int.reduceSub, Int.reduceMul, Int.reduceNeg] | with_reducible refine vIf_t ?_ | with_reducible refine vIf_f ?_)); all_goals (try simp); all_goals (try omega)); done) | (refine leF_p ?_; ((repeat (first | simp (maxSteps := 2000000) (disch := omega) only [go_sem, ↓reduceIte, Nat.reduceEqDiff, Nat.reduceAdd, Nat.reduceMul, Nat.reduceSub, Int.reduceToNat, Int.reduceAdd, Int.reduceSub, Int.reduceMul, Int.reduceNeg] | with_reducible refine vIf_t ?_ | with_reducible refine vIf_f ?_)); all_goals (try simp); all_goals (try omega)); done))) ?_
        intro k hk
        (repeat (first | simp (maxSteps := 2000000) (disch := omega) only [go_sem, ↓reduceIte, Nat.reduceEqDiff, Nat.reduceAdd, Nat.reduceMul, Nat.reduceSub, Int.reduceToNat, Int.reduceAdd, Int.reduceSub, Int.reduceMul, Int.reduceNeg] | with_reducible refine vIf_t ?_ | with_reducible refine vIf_f ?_))
        refine vIf_dec (fun hh => ?_) (fun hh => ?_)
        · have hkl : k < 40 := by omega
          have b1 := F.bd k hk
          have b2 := F.bd (k + 1) (by omega)
          have hs := sp_succ sh k (by omega)
          have hL := F.l
          have hnn := F.nn k hkl
          have hdl := dvL_len sh k
          have hw : IntKind.wrap .i64 (sp sh k + gi sh k) = sp sh k + gi sh k := by simp [IntKind.wrap, IntKind.bits, IntKind.signed]; omega
          (repeat (first | simp (maxSteps := 2000000) (disch := omega) only [go_sem, ↓reduceIte, Nat.reduceEqDiff, Nat.reduceAdd, Nat.reduceMul, Nat.reduceSub, Int.reduceToNat, Int.reduceAdd, Int.reduceSub, Int.reduceMul, Int.reduceNeg, hsl] | with_reducible refine vIf_t ?_ | with_reducible refine vIf_f ?_))
          refine vIf_dec (fun h4 => ?_) (fun h4 => ?_)
          · have e : dvL sh (k + 1) = dvL sh k ++ [⟨k, sp sh k, sp sh k + gi sh k⟩] := by rw [dvL, if_pos h4]
            (repeat (first | simp (maxSteps := 2000000) (disch := omega) only [go_sem, ↓reduceIte, Nat.reduceEqDiff, Nat.reduceAdd, Nat.reduceMul, Nat.reduceSub, Int.reduceToNat, Int.reduceAdd, Int.reduceSub, Int.reduceMul, Int.reduceNeg, hw] | with_reducible refine vIf_t ?_ | with_reducible refine vIf_f ?_))
            refine againF (k + 1) (by omega) (by omega) ?_
            rw [e, hs]
            (first | (refine leF_s ?_; ((repeat (first | simp (maxSteps := 2000000) (disch := omega) only [go_sem, ↓reduceIte, Nat.reduceEqDiff, Nat.reduceAdd, Nat.reduceMul, Nat.reduceSub, Int.reduceToNat, Int.reduceAdd, Int.reduceSub, Int.reduceMul, Int.reduceNeg] | with_reducible refine vIf_t ?_ | with_reducible refine vIf_f ?_)); all_goals (try simp); all_goals (try omega)); done) | (refine leF_p ?_; ((repeat (first | simp (maxSteps := 2000000) (disch := omega) only [go_sem, ↓reduceIte, Nat.reduceEqDiff, Nat.reduceAdd, Nat.reduceMul, Nat.reduceSub, Int.reduceToNat, Int.reduceAdd, Int.reduceSub, Int.reduceMul, Int.reduceNeg] | with_reducible refine vIf_t ?_ | with_reducible refine vIf_f ?_)); all_goals (try simp); all_goals (try omega)); done))
          · have e : dvL sh (k + 1) = dvL sh k := by rw [dvL, if_neg h4, List.append_nil]
            (repeat (first | simp (maxSteps := 2000000) (disch := omega) only [go_sem, ↓reduceIte, Nat.reduceEqDiff, Nat.reduceAdd, Nat.reduceMul, Nat.reduceSub, Int.reduceToNat, Int.reduceAdd, Int.reduceSub, Int.reduceMul, Int.reduceNeg] | with_reducible refine vIf_t ?_ | with_reducible refine vIf_f ?_))
            refine againF (k + 1) (by omega) (by omega) ?_
            rw [e, hs, show gi sh k = 0 by omega, Int.add_zero]
            (first | (refine leF_s ?_; ((repeat (first | simp (maxSteps := 2000000) (disch := omega) only [go_sem, ↓reduceIte, Nat.reduceEqDiff, Nat.reduceAdd, Nat.reduceMul, Nat.reduceSub, Int.reduceToNat, Int.reduceAdd, Int.reduceSub, Int.reduceMul, Int.reduceNeg] | with_reducible refine vIf_t ?_ | with_reducible refine vIf_f ?_)); all_goals (try simp); all_goals (try omega)); done) | (refine leF_p ?_; ((repeat (first | simp (maxSteps := 2000000) (disch := omega) only [go_sem, ↓reduceIte, Nat.reduceEqDiff, Nat.reduceAdd, Nat.reduceMul, Nat.reduceSub, Int.reduceToNat, Int.reduceAdd, Int.reduceSub, Int.reduceMul, Int.reduceNeg] | with_reducible refine vIf_t ?_ | with_reducible refine vIf_f ?_)); all_goals (try simp); all_goals (try omega)); done))
        · have hke : k = 40 := by omega
          subst hke
          (repeat (first | simp (maxSteps := 2000000) (disch := omega) only [go_sem, ↓reduceIte, Nat.reduceEqDiff, Nat.reduceAdd, Nat.reduceMul, Nat.reduceSub, Int.reduceToNat, Int.reduceAdd, Int.reduceSub, Int.reduceMul, Int.reduceNeg] | with_reducible refine vIf_t ?_ | with_reducible refine vIf_f ?_))
          (refine retK_of ?_; (repeat (first | simp (maxSteps := 2000000) (disch := omega) only [go_sem, ↓reduceIte, Nat.reduceEqDiff, Nat.reduceAdd, Nat.reduceMul, Nat.reduceSub, Int.reduceToNat, Int.reduceAdd, Int.reduceSub, Int.reduceMul, Int.reduceNeg] | with_reducible refine vIf_t ?_ | with_reducible refine vIf_f ?_)))
    · have h2b : decide (1 ≤ L ∧ L ≤ 300000) = false := decide_eq_false h2
      have ec : ddC ps L = 2 := by rw [ddC, if_pos hok, if_neg h2]
      (repeat (first | simp (maxSteps := 2000000) (disch := omega) only [go_sem, ↓reduceIte, Nat.reduceEqDiff, Nat.reduceAdd, Nat.reduceMul, Nat.reduceSub, Int.reduceToNat, Int.reduceAdd, Int.reduceSub, Int.reduceMul, Int.reduceNeg, h2b] | with_reducible refine vIf_t ?_ | with_reducible refine vIf_f ?_))
      (refine retK_of ?_; (repeat (first | simp (maxSteps := 2000000) (disch := omega) only [go_sem, ↓reduceIte, Nat.reduceEqDiff, Nat.reduceAdd, Nat.reduceMul, Nat.reduceSub, Int.reduceToNat, Int.reduceAdd, Int.reduceSub, Int.reduceMul, Int.reduceNeg] | with_reducible refine vIf_t ?_ | with_reducible refine vIf_f ?_)))
      rw [ec]; simp
set_option maxHeartbeats 4000000 in
theorem divideDS_ok (ps : List Pc) (L : Int) (hl : ps.length ≤ 10000000) : ACalls Try.prog 43 [.sl ps.length (cPc ps), I L] []
    (fun r o => if ddC ps L = 0 then r = .tup [.ref 0 0 (dvL (shD ps L) 40).length, I 0] ∧ o = [some ⟨3, cDu (dvL (shD ps L) 40)⟩] else r = .tup [.sc (.slice none 0 0), I (ddC ps L)] ∧ o = []) := by
  refine ACalls.of_vc Try.func43 rfl (by decide) 53 rfl [.tmp 4, .tmp 5] rfl (by simp) ?_
  (repeat (first | simp (maxSteps := 2000000) (disch := omega) only [go_sem, ↓reduceIte, Nat.reduceEqDiff, Nat.reduceAdd, Nat.reduceMul, Nat.reduceSub, Int.reduceToNat, Int.reduceAdd, Int.reduceSub, Int.reduceMul, Int.reduceNeg] | with_reducible refine vIf_t ?_ | with_reducible refine vIf_f ?_))
  (refine vCallX_of ?_; (repeat (first | simp (maxSteps := 2000000) (disch := omega) only [go_sem, ↓reduceIte, Nat.reduceEqDiff, Nat.reduceAdd, Nat.reduceMul, Nat.reduceSub, Int.reduceToNat, Int.reduceAdd, Int.reduceSub, Int.reduceMul, Int.reduceNeg] | with_reducible refine vIf_t ?_ | with_reducible refine vIf_f ?_)); refine vCall_eq (l19Ok_ok ps hl) (by simp (disch := omega) only [go_sem, Nat.reduceAdd]) rfl (by first | exact Or.inl rfl | exact Or.inr ⟨rfl, rfl⟩ | (apply Or.inr; simp only [go_sem])) ?_; (repeat (first | simp (maxSteps := 2000000) (disch := omega) only [go_sem, ↓reduceIte, Nat.reduceEqDiff, Nat.reduceAdd, Nat.reduceMul, Nat.reduceSub, Int.reduceToNat, Int.reduceAdd, Int.reduceSub, Int.reduceMul, Int.reduceNeg] | with_reducible refine vIf_t ?_ | with_reducible refine vIf_f ?_)))
  cases hok : okP ps with
  | false =>
    have ec : ddC ps L = 1 := by simp [ddC, hok]
    (repeat (first | simp (maxSteps := 2000000) (disch := omega) only [go_sem, ↓reduceIte, Nat.reduceEqDiff, Nat.reduceAdd, Nat.reduceMul, Nat.reduceSub, Int.reduceToNat, Int.reduceAdd, Int.reduceSub, Int.reduceMul, Int.reduceNeg, hok] | with_reducible refine vIf_t ?_ | with_reducible refine vIf_f ?_))
    (refine retK_of ?_; (repeat (first | simp (maxSteps := 2000000) (disch := omega) only [go_sem, ↓reduceIte, Nat.reduceEqDiff, Nat.reduceAdd, Nat.reduceMul, Nat.reduceSub, Int.reduceToNat, Int.reduceAdd, Int.reduceSub, Int.reduceMul, Int.reduceNeg] | with_reducible refine vIf_t ?_ | with_reducible refine vIf_f ?_)))
    rw [ec]; simp
  | true =>
    (repeat (first | simp (maxSteps := 2000000) (disch := omega) only [go_sem, ↓reduceIte, Nat.reduceEqDiff, Nat.reduceAdd, Nat.reduceMul, Nat.reduceSub, Int.reduceToNat, Int.reduceAdd, Int.reduceSub, Int.reduceMul, Int.reduceNeg, hok] | with_reducible refine vIf_t ?_ | with_reducible refine vIf_f ?_))
    (refine vCallX_of ?_; (repeat (first | simp (maxSteps := 2000000) (disch := omega) only [go_sem, ↓reduceIte, Nat.reduceEqDiff, Nat.reduceAdd, Nat.reduceMul, Nat.reduceSub, Int.reduceToNat, Int.reduceAdd, Int.reduceSub, Int.reduceMul, Int.reduceNeg] | with_reducible refine vIf_t ?_ | with_reducible refine vIf_f ?_)); refine vCall_eq (dkLenS_ok L) (by simp (disch := omega) only [go_sem, Nat.reduceAdd]) rfl (by first | exact Or.inl rfl | exact Or.inr ⟨rfl, rfl⟩ | (apply Or.inr; simp only [go_sem])) ?_; (repeat (first | simp (maxSteps := 2000000) (disch := omega) only [go_sem, ↓reduceIte, Nat.reduceEqDiff, Nat.reduceAdd, Nat.reduceMul, Nat.reduceSub, Int.reduceToNat, Int.reduceAdd, Int.reduceSub, Int.reduceMul, Int.reduceNeg] | with_reducible refine vIf_t ?_ | with_reducible refine vIf_f ?_)))
    by_cases h2 : 1 ≤ L ∧ L ≤ 300000
    · have h2b : decide (1 ≤ L ∧ L ≤ 300000) = true := decide_eq_true h2
      (repeat (first | simp (maxSteps := 2000000) (disch := omega) only [go_sem, ↓reduceIte, Nat.reduceEqDiff, Nat.reduceAdd, Nat.reduceMul, Nat.reduceSub, Int.reduceToNat, Int.reduceAdd, Int.reduceSub, Int.reduceMul, Int.reduceNeg, h2b] | with_reducible refine vIf_t ?_ | with_reducible refine vIf_f ?_))
      refine vIf_beq (fun h3 => ?_) (fun h3 => ?_)
      · have ec : ddC ps L = 3 := by rw [ddC, if_pos hok, if_pos h2, if_pos (by omega)]
        (repeat (first | simp (maxSteps := 2000000) (disch := omega) only [go_sem, ↓reduceIte, Nat.reduceEqDiff, Nat.reduceAdd, Nat.reduceMul, Nat.reduceSub, Int.reduceToNat, Int.reduceAdd, Int.reduceSub, Int.reduceMul, Int.reduceNeg] | with_reducible refine vIf_t ?_ | with_reducible refine vIf_f ?_))
        (refine retK_of ?_; (repeat (first | simp (maxSteps := 2000000) (disch := omega) only [go_sem, ↓reduceIte, Nat.reduceEqDiff, Nat.reduceAdd, Nat.reduceMul, Nat.reduceSub, Int.reduceToNat, Int.reduceAdd, Int.reduceSub, Int.reduceMul, Int.reduceNeg] | with_reducible refine vIf_t ?_ | with_reducible refine vIf_f ?_)))
        rw [ec]; simp
      · have ec : ddC ps L = 0 := by rw [ddC, if_pos hok, if_pos h2, if_neg (by omega)]
        have hn : 0 < ps.length := by omega
        have F := shD_ok hok hn L h2
        (repeat (first | simp (maxSteps := 2000000) (disch := omega) only [go_sem, ↓reduceIte, Nat.reduceEqDiff, Nat.reduceAdd, Nat.reduceMul, Nat.reduceSub, Int.reduceToNat, Int.reduceAdd, Int.reduceSub, Int.reduceMul, Int.reduceNeg] | with_reducible refine vIf_t ?_ | with_reducible refine vIf_f ?_))
        (refine vCallX_of ?_; (repeat (first | simp (maxSteps := 2000000) (disch := omega) only [go_sem, ↓reduceIte, Nat.reduceEqDiff, Nat.reduceAdd, Nat.reduceMul, Nat.reduceSub, Int.reduceToNat, Int.reduceAdd, Int.reduceSub, Int.reduceMul, Int.reduceNeg] | with_reducible refine vIf_t ?_ | with_reducible refine vIf_f ?_)); refine vCall_eq (l21Shares_ok ps hok hn L h2) (by simp (disch := omega) only [go_sem, Nat.reduceAdd]) rfl (by first | exact Or.inl rfl | exact Or.inr ⟨rfl, rfl⟩ | (apply Or.inr; simp only [go_sem])) ?_; (repeat (first | simp (maxSteps := 2000000) (disch := omega) only [go_sem, ↓reduceIte, Nat.reduceEqDiff, Nat.reduceAdd, Nat.reduceMul, Nat.reduceSub, Int.reduceToNat, Int.reduceAdd, Int.reduceSub, Int.reduceMul, Int.reduceNeg] | with_reducible refine vIf_t ?_ | with_reducible refine vIf_f ?_)))
        have hsl := F.n
        rw [ec]
        generalize shD ps L = sh at *
        refine vcLoop_invF (fun k : Nat => k ≤ 40) (fun k => ⟨53, 0, [(9, I k), (6, .ref 0 0 40), (8, I (sp sh k)), (7, .ref 1 0 (dvL sh k).length)], [oI sh, some ⟨3, cDu (dvL sh k)⟩]⟩) (fun k => 40 - k) 0 (by omega) (by (first | (refine leF_s ?_; ((repeat (first | simp (maxSteps := 2000000) (disch := omega) only [go_sem, ↓reduceIte, Nat.reduceEqDiff, Nat.reduceAdd, Nat.reduceMul, Nat.reduceSub, Int.reduceToNat, Int.reduceAdd, Int.reduceSub, Int.reduceMul, Int.reduceNeg] | with_reducible refine vIf_t ?_ | with_reducible refine vIf_f ?_)); all_goals (try simp); all_goals (try omega)); done) | (refine leF_p ?_; ((repeat (first | simp (maxSteps := 2000000) (disch := omega) only [go_sem, ↓reduceIte, Nat.reduceEqDiff, Nat.reduceAdd, Nat.reduceMul, Nat.reduceSub, Int.reduceToNat, Int.reduceAdd, Int.reduceSub, Int.reduceMul, Int.reduceNeg] | with_reducible refine vIf_t ?_ | with_reducible refine vIf_f ?_)); all_goals (try simp); all_goals (try omega)); done))) ?_
        intro k hk
        (repeat (first | simp (maxSteps := 2000000) (disch := omega) only [go_sem, ↓reduceIte, Nat.reduceEqDiff, Nat.reduceAdd, Nat.reduceMul, Nat.reduceSub, Int.reduceToNat, Int.reduceAdd, Int.reduceSub, Int.reduceMul, Int.reduceNeg] | with_reducible refine vIf_t ?_ | with_reducible refine vIf_f ?_))
        refine vIf_dec (fun hh => ?_) (fun hh => ?_)
        · have hkl : k < 40 := by omega
          have b1 := F.bd k hk
          have b2 := F.bd (k + 1) (by omega)
          have hs := sp_succ sh k (by omega)
          have hL := F.l
          have hnn := F.nn k hkl
          have hdl := dvL_len sh k
          have hw : IntKind.wrap .i64 (sp sh k + gi sh k) = sp sh k + gi sh k := by simp [IntKind.wrap, IntKind.bits, IntKind.signed]; omega
          (repeat (first | simp (maxSteps := 2000000) (disch := omega) only [go_sem, ↓reduceIte, Nat.reduceEqDiff, Nat.reduceAdd, Nat.reduceMul, Nat.reduceSub, Int.reduceToNat, Int.reduceAdd, Int.reduceSub, Int.reduceMul, Int.reduceNeg, hsl] | with_reducible refine vIf_t ?_ | with_reducible refine vIf_f ?_))
          refine vIf_dec (fun h4 => ?_) (fun h4 => ?_)
          · have e : dvL sh (k + 1) = dvL sh k ++ [⟨k, sp sh k, sp sh k + gi sh k⟩] := by rw [dvL, if_pos h4]
            (repeat (first | simp (maxSteps := 2000000) (disch := omega) only [go_sem, ↓reduceIte, Nat.reduceEqDiff, Nat.reduceAdd, Nat.reduceMul, Nat.reduceSub, Int.reduceToNat, Int.reduceAdd, Int.reduceSub, Int.reduceMul, Int.reduceNeg, hw, hsl] | with_reducible refine vIf_t ?_ | with_reducible refine vIf_f ?_))
            refine againF (k + 1) (by omega) (by omega) ?_
            rw [e, hs]
            (first | (refine leF_s ?_; ((repeat (first | simp (maxSteps := 2000000) (disch := omega) only [go_sem, ↓reduceIte, Nat.reduceEqDiff, Nat.reduceAdd, Nat.reduceMul, Nat.reduceSub, Int.reduceToNat, Int.reduceAdd, Int.reduceSub, Int.reduceMul, Int.reduceNeg] | with_reducible refine vIf_t ?_ | with_reducible refine vIf_f ?_)); all_goals (try simp); all_goals (try omega)); done) | (refine leF_p ?_; ((repeat (first | simp (maxSteps := 2000000) (disch := omega) only [go_sem, ↓reduceIte, Nat.reduceEqDiff, Nat.reduceAdd, Nat.reduceMul, Nat.reduceSub, Int.reduceToNat, Int.reduceAdd, Int.reduceSub, Int.reduceMul, Int.reduceNeg] | with_reducible refine vIf_t ?_ | with_reducible refine vIf_f ?_)); all_goals (try simp); all_goals (try omega)); done))
          · have e : dvL sh (k + 1) = dvL sh k := by rw [dvL, if_neg h4, List.append_nil]
            (repeat (first | simp (maxSteps := 2000000) (disch := omega) only [go_sem, ↓reduceIte, Nat.reduceEqDiff, Nat.reduceAdd, Nat.reduceMul, Nat.reduceSub, Int.reduceToNat, Int.reduceAdd, Int.reduceSub, Int.reduceMul, Int.reduceNeg] | with_reducible refine vIf_t ?_ | with_reducible refine vIf_f ?_))
            refine againF (k + 1) (by omega) (by omega) ?_
            rw [e, hs, show gi sh k = 0 by omega, Int.add_zero]
            (first | (refine leF_s ?_; ((repeat (first | simp (maxSteps := 2000000) (disch := omega) only [go_sem, ↓reduceIte, Nat.reduceEqDiff, Nat.reduceAdd, Nat.reduceMul, Nat.reduceSub, Int.reduceToNat, Int.reduceAdd, Int.reduceSub, Int.reduceMul, Int.reduceNeg] | with_reducible refine vIf_t ?_ | with_reducible refine vIf_f ?_)); all_goals (try simp); all_goals (try omega)); done) | (refine leF_p ?_; ((repeat (first | simp (maxSteps := 2000000) (disch := omega) only [go_sem, ↓reduceIte, Nat.reduceEqDiff, Nat.reduceAdd, Nat.reduceMul, Nat.reduceSub, Int.reduceToNat, Int.reduceAdd, Int.reduceSub, Int.reduceMul, Int.reduceNeg] | with_reducible refine vIf_t ?_ | with_reducible refine vIf_f ?_)); all_goals (try simp); all_goals (try omega)); done))
        · have hke : k = 40 := by omega
          subst hke
          (repeat (first | simp (maxSteps := 2000000) (disch := omega) only [go_sem, ↓reduceIte, Nat.reduceEqDiff, Nat.reduceAdd, Nat.reduceMul, Nat.reduceSub, Int.reduceToNat, Int.reduceAdd, Int.reduceSub, Int.reduceMul, Int.reduceNeg] | with_reducible refine vIf_t ?_ | with_reducible refine vIf_f ?_))
          (refine retK_of ?_; (repeat (first | simp (maxSteps := 2000000) (disch := omega) only [go_sem, ↓reduceIte, Nat.reduceEqDiff, Nat.reduceAdd, Nat.reduceMul, Nat.reduceSub, Int.reduceToNat, Int.reduceAdd, Int.reduceSub, Int.reduceMul, Int.reduceNeg] | with_reducible refine vIf_t ?_ | with_reducible refine vIf_f ?_)))
    · have h2b : decide (1 ≤ L ∧ L ≤ 300000) = false := decide_eq_false h2
      have ec : ddC ps L = 2 := by rw [ddC, if_pos hok, if_neg h2]
      (repeat (first | simp (maxSteps := 2000000) (disch := omega) only [go_sem, ↓reduceIte, Nat.reduceEqDiff, Nat.reduceAdd, Nat.reduceMul, Nat.reduceSub, Int.reduceToNat, Int.reduceAdd, Int.reduceSub, Int.reduceMul, Int.reduceNeg, h2b] | with_reducible refine vIf_t ?_ | with_reducible refine vIf_f ?_))
      (refine retK_of ?_; (repeat (first | simp (maxSteps := 2000000) (disch := omega) only [go_sem, ↓reduceIte, Nat.reduceEqDiff, Nat.reduceAdd, Nat.reduceMul, Nat.reduceSub, Int.reduceToNat, Int.reduceAdd, Int.reduceSub, Int.reduceMul, Int.reduceNeg] | with_reducible refine vIf_t ?_ | with_reducible refine vIf_f ?_)))
      rw [ec]; simp
end Go.Proofs.Ythnphcinjchloaa

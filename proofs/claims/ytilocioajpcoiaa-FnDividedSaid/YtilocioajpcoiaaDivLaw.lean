/- dues: the law -/
import Derived.Test.YtilocioajpcoiaaDiv2
import Derived.Test.YtilocioajpcoiaaA2
set_option linter.unusedVariables false
set_option linter.unusedSimpArgs false
namespace Go.Proofs.Ytilocioajpcoiaa
open Go.AG Go.Lib

attribute [local go_sem] beq_self_eq_true bne_self_eq_false Bool.not_true Bool.not_false
attribute [local go_sem] sumI_nil
theorem a2SumD_ok (xs : List Int) (hl : xs.length ≤ 10000000) : ACalls Try.prog 13 [iS xs] [] (fun r o => r = I (wsum xs) ∧ o = []) := by
  refine ACalls.of_vc Try.func13 rfl (by decide) 18 rfl [.tmp 2] rfl (by simp) ?_
  unfold iS
  (repeat (first | simp (maxSteps := 2000000) (disch := omega) only [go_sem, ↓reduceIte, Nat.reduceEqDiff, Nat.reduceAdd, Nat.reduceMul, Nat.reduceSub, Int.reduceToNat, Int.reduceAdd, Int.reduceSub, Int.reduceMul, Int.reduceNeg] | with_reducible refine vIf_t ?_ | with_reducible refine vIf_f ?_))
  refine vcLoop_inv (fun k : Nat => k ≤ xs.length) (fun k => ⟨18, 0, [(4, I k), (0, .sl xs.length (ints xs)), (3, I (wsum (xs.take k)))], []⟩) (fun k => xs.length - k) 0 (by omega) (by (repeat (first | simp (maxSteps := 2000000) (disch := omega) only [go_sem, ↓reduceIte, Nat.reduceEqDiff, Nat.reduceAdd, Nat.reduceMul, Nat.reduceSub, Int.reduceToNat, Int.reduceAdd, Int.reduceSub, Int.reduceMul, Int.reduceNeg] | with_reducible refine vIf_t ?_ | with_reducible refine vIf_f ?_)); simp [wsum_nil]) ?_
  intro k hk
  (repeat (first | simp (maxSteps := 2000000) (disch := omega) only [go_sem, ↓reduceIte, Nat.reduceEqDiff, Nat.reduceAdd, Nat.reduceMul, Nat.reduceSub, Int.reduceToNat, Int.reduceAdd, Int.reduceSub, Int.reduceMul, Int.reduceNeg] | with_reducible refine vIf_t ?_ | with_reducible refine vIf_f ?_))
  refine vIf_dec (fun h => ?_) (fun h => ?_)
  · (repeat (first | simp (maxSteps := 2000000) (disch := omega) only [go_sem, ↓reduceIte, Nat.reduceEqDiff, Nat.reduceAdd, Nat.reduceMul, Nat.reduceSub, Int.reduceToNat, Int.reduceAdd, Int.reduceSub, Int.reduceMul, Int.reduceNeg] | with_reducible refine vIf_t ?_ | with_reducible refine vIf_f ?_))
    refine again (k + 1) (by omega) (by omega) ?_
    (repeat (first | simp (maxSteps := 2000000) (disch := omega) only [go_sem, ↓reduceIte, Nat.reduceEqDiff, Nat.reduceAdd, Nat.reduceMul, Nat.reduceSub, Int.reduceToNat, Int.reduceAdd, Int.reduceSub, Int.reduceMul, Int.reduceNeg] | with_reducible refine vIf_t ?_ | with_reducible refine vIf_f ?_))
    rw [take_succ_gi _ _ (by omega), wsum_snoc]
    all_goals (try simp)
  · (repeat (first | simp (maxSteps := 2000000) (disch := omega) only [go_sem, ↓reduceIte, Nat.reduceEqDiff, Nat.reduceAdd, Nat.reduceMul, Nat.reduceSub, Int.reduceToNat, Int.reduceAdd, Int.reduceSub, Int.reduceMul, Int.reduceNeg] | with_reducible refine vIf_t ?_ | with_reducible refine vIf_f ?_))
    (refine retK_of ?_; (repeat (first | simp (maxSteps := 2000000) (disch := omega) only [go_sem, ↓reduceIte, Nat.reduceEqDiff, Nat.reduceAdd, Nat.reduceMul, Nat.reduceSub, Int.reduceToNat, Int.reduceAdd, Int.reduceSub, Int.reduceMul, Int.reduceNeg] | with_reducible refine vIf_t ?_ | with_reducible refine vIf_f ?_)))
    rw [take_all _ _ (by omega)]
theorem bl_at (os : List Int) (k i : Nat) (h : i < (blK os k).length) : ∃ o : Nat, o < k ∧ 0 < gi os o ∧ gBl (blK os k) i = ⟨o, 5, gi os o, 0⟩ := by
  have hm := List.getElem_mem h
  rw [gBl_lt _ _ h]
  unfold blK at hm ⊢
  rw [List.mem_map] at hm
  obtain ⟨o, h1, h2⟩ := hm
  rw [List.mem_filter, List.mem_range] at h1
  exact ⟨o, h1.1, of_decide_eq_true h1.2, h2.symm⟩
theorem bl_up (os : List Int) (k i : Nat) (h : i + 1 < (blK os k).length) : (gBl (blK os k) i).owner < (gBl (blK os k) (i + 1)).owner := by
  rw [gBl_lt _ _ h, gBl_lt _ _ (by omega)]
  have hp : (blK os k).Pairwise fun a b => a.owner < b.owner := by
    unfold blK
    rw [List.pairwise_map]
    refine (List.Pairwise.filter _ List.pairwise_lt_range).imp fun {a b} hab => ?_
    show (a : Int) < b
    omega
  exact List.pairwise_iff_getElem.1 hp i (i + 1) _ _ (by omega)
theorem bl_sum (os : List Int) (h : ∀ i, 0 ≤ gi os i) (k : Nat) (hk : k ≤ os.length) : sumI ((blK os k).map Bl.amt) = sumI (os.take k) := by
  induction k with
  | zero => simp [blK, sumI_nil]
  | succ k ih =>
    rw [blK_succ, List.map_append, sumI_append, ih (by omega), sum_take _ _ (by omega)]
    have := h k
    split
    · simp [sumI_cons, sumI_nil]
    · simp [sumI_nil]; omega
def amB (bl : List Bl) (j : Nat) : Int := sumI ((bl.map Bl.amt).take j)
theorem amB_succ (bl : List Bl) (j : Nat) (h : j < bl.length) : amB bl (j + 1) = amB bl j + (gBl bl j).amt := by
  unfold amB
  rw [sum_take _ _ (by rw [List.length_map]; exact h), gBl_lt _ _ h]
  simp [gi, h]
/-- the facts of the law -/
structure DvF (ds : List Pc) (fs : List Int) (T : Int) (du os : List Int) (bl : List Bl) : Prop where
  D : DvD ds fs
  t : 0 ≤ T ∧ T ≤ 200000
  dl : du.length = ds.length
  sm : wsum du = T
  dv : ∀ i : Nat, i < ds.length → (gi du i = T * gi (wD ds fs) i / sumI (wD ds fs) ∨ gi du i = T * gi (wD ds fs) i / sumI (wD ds fs) + 1 ∧ 0 < T * gi (wD ds fs) i % sumI (wD ds fs))
  ol : os.length = 40
  om : wsum os = T
  bn : bl.length ≤ 40
  X : BlX bl
  b : ∀ i, i < bl.length → 1 ≤ (gBl bl i).amt ∧ (gBl bl i).paid = 0 ∧ (gBl bl i).day = 5 ∧ (0 ≤ (gBl bl i).owner ∧ (gBl bl i).owner < 40) ∧ gi os (gBl bl i).owner.toNat = (gBl bl i).amt
  u : ∀ i, i + 1 < bl.length → (gBl bl i).owner < (gBl bl (i + 1)).owner
  s : amB bl bl.length = T
  sb : ∀ j, 0 ≤ amB bl j ∧ amB bl j ≤ T
theorem wsum_nn (xs : List Int) (T : Int) (hT : 0 ≤ T ∧ T ≤ 200000) (hl : xs.length ≤ 100) (h : ∀ i, i < xs.length → 0 ≤ gi xs i) (hs : sumI xs = T) : wsum xs = T := by
  have h' : ∀ x ∈ xs, 0 ≤ x := fun x hx => by
    obtain ⟨i, hi, rfl⟩ := List.mem_iff_getElem.1 hx
    have := h i hi
    rwa [gi, List.getD_eq_getElem?_getD, List.getElem?_eq_getElem hi, Option.getD_some] at this
  have h1 := mem_le_sum xs h'
  rw [← hs]
  exact (wsum_eq xs 200000 (by omega) (fun x hx => by have := h' x hx; have := h1.2 x hx; omega) (by omega)).1
theorem dvF {ds : List Pc} {fs : List Int} (D : DvD ds fs) (T : Int) (hT : 0 ≤ T ∧ T ≤ 200000) : DvF ds fs T (shV T (wD ds fs)) (osV ds fs T) (blK (osV ds fs T) 40) := by
  have hD := D.shd T hT
  have hsh := D.sh T hT
  have hn := D.n
  obtain ⟨k1, k2⟩ := osK_val ds (shV T (wD ds fs)) hD.l hD.o hD.p ds.length (Nat.le_refl _)
  have hos : sumI (osV ds fs T) = T := by
    unfold osV
    rw [k1, List.take_of_length_le (by rw [hD.l]; omega), hD.s]
  have hol : (osV ds fs T).length = 40 := osK_len _ _ _
  have hnn : ∀ i, 0 ≤ gi (osV ds fs T) i := k2
  have hle : ∀ i, gi (osV ds fs T) i ≤ T := fun i => by have := mem_le_gi _ hnn i; omega
  generalize osV ds fs T = os at *
  have hat := bl_at os 40
  have hsum := bl_sum os hnn 40 (by omega)
  rw [List.take_of_length_le (by omega), hos] at hsum
  have hb40 := blK_len os 40
  refine ⟨D, hT, hD.l, wsum_nn _ T hT (by rw [hD.l]; omega) hD.p hD.s, fun i hi => (sh_ok hsh).2 i (by rw [wD_len]; exact hi), hol, wsum_nn os T hT (by omega) (fun i _ => hnn i) hos, hb40, ⟨by omega, fun i hi => ?_, fun i hi => ?_⟩, fun i hi => ?_, bl_up os 40, ?_, fun j => ?_⟩
  · obtain ⟨o, h1, h2, h3⟩ := hat i hi
    have := hle o
    rw [h3]
    exact ⟨by simp only; omega, by simp only; omega, by simp only; omega, by simp only; omega⟩
  · obtain ⟨o, h1, h2, h3⟩ := hat i (by omega)
    obtain ⟨o', h1', h2', h3'⟩ := hat (i + 1) hi
    rw [h3, h3']; simp
  · obtain ⟨o, h1, h2, h3⟩ := hat i hi
    rw [h3]
    refine ⟨by simp only; omega, rfl, rfl, by simp only; omega, by simp⟩
  · unfold amB
    rw [List.take_of_length_le (by rw [List.length_map]; omega)]
    exact hsum
  · have := sum_take_le ((blK os 40).map Bl.amt) (fun i hi => by
      rw [List.length_map] at hi
      obtain ⟨o, h1, h2, h3⟩ := hat i hi
      rw [gBl_lt _ _ hi] at h3
      simp only [gi, List.getD_eq_getElem?_getD, List.getElem?_map, List.getElem?_eq_getElem hi, Option.map_some, Option.getD_some, h3]
      simp only [gi, List.getD_eq_getElem?_getD] at h2
      omega) j
    rw [hsum] at this
    exact this
set_option maxRecDepth 100000 in
set_option maxHeartbeats 32000000 in
theorem divLaw_ok (code more : List Int) (hb : bOk code) (hl : code.length ≤ 9223372036854775807) (hb' : bOk more) (hl' : more.length ≤ 9223372036854775807) : ACalls Try.prog 3 [bS code, bS more] [] (fun r o => r = B true ∧ o = []) := by
  refine ACalls.of_vc Try.func3 rfl (by decide) 226 rfl [.tmp 4] rfl (by simp) ?_
  have hlong := a2Long_ok code more hl hl'
  unfold bS at hlong ⊢
  (repeat (first | simp (maxSteps := 2000000) (disch := omega) only [go_sem, ↓reduceIte, Nat.reduceEqDiff, Nat.reduceAdd, Nat.reduceMul, Nat.reduceSub, Int.reduceToNat, Int.reduceAdd, Int.reduceSub, Int.reduceMul, Int.reduceNeg] | with_reducible refine vIf_t ?_ | with_reducible refine vIf_f ?_))
  (refine vCallX_of ?_; (repeat (first | simp (maxSteps := 2000000) (disch := omega) only [go_sem, ↓reduceIte, Nat.reduceEqDiff, Nat.reduceAdd, Nat.reduceMul, Nat.reduceSub, Int.reduceToNat, Int.reduceAdd, Int.reduceSub, Int.reduceMul, Int.reduceNeg] | with_reducible refine vIf_t ?_ | with_reducible refine vIf_f ?_)); refine vCall_eq (hlong) (by simp (disch := omega) only [go_sem, Nat.reduceAdd]) rfl (by first | exact Or.inl rfl | exact Or.inr ⟨rfl, rfl⟩ | (apply Or.inr; simp only [go_sem])) ?_; (repeat (first | simp (maxSteps := 2000000) (disch := omega) only [go_sem, ↓reduceIte, Nat.reduceEqDiff, Nat.reduceAdd, Nat.reduceMul, Nat.reduceSub, Int.reduceToNat, Int.reduceAdd, Int.reduceSub, Int.reduceMul, Int.reduceNeg] | with_reducible refine vIf_t ?_ | with_reducible refine vIf_f ?_)))
  cases hlg : (decide (3000 < (code.length : Int)) || decide (3000 < (more.length : Int))) with
  | true =>
    refine vIf_t ?_
    (repeat (first | simp (maxSteps := 2000000) (disch := omega) only [go_sem, ↓reduceIte, Nat.reduceEqDiff, Nat.reduceAdd, Nat.reduceMul, Nat.reduceSub, Int.reduceToNat, Int.reduceAdd, Int.reduceSub, Int.reduceMul, Int.reduceNeg] | with_reducible refine vIf_t ?_ | with_reducible refine vIf_f ?_))
    (refine retK_of ?_; (repeat (first | simp (maxSteps := 2000000) (disch := omega) only [go_sem, ↓reduceIte, Nat.reduceEqDiff, Nat.reduceAdd, Nat.reduceMul, Nat.reduceSub, Int.reduceToNat, Int.reduceAdd, Int.reduceSub, Int.reduceMul, Int.reduceNeg] | with_reducible refine vIf_t ?_ | with_reducible refine vIf_f ?_)))
  | false =>
    refine vIf_f ?_
    simp only [Bool.or_eq_false_iff, decide_eq_false_iff_not] at hlg
    have g : SrOk code := ⟨hb, by omega⟩
    have d1 := a2Parcels_e g
    unfold bS at d1
    (repeat (first | simp (maxSteps := 2000000) (disch := omega) only [go_sem, ↓reduceIte, Nat.reduceEqDiff, Nat.reduceAdd, Nat.reduceMul, Nat.reduceSub, Int.reduceToNat, Int.reduceAdd, Int.reduceSub, Int.reduceMul, Int.reduceNeg] | with_reducible refine vIf_t ?_ | with_reducible refine vIf_f ?_))
    (refine vCallX_of ?_; (repeat (first | simp (maxSteps := 2000000) (disch := omega) only [go_sem, ↓reduceIte, Nat.reduceEqDiff, Nat.reduceAdd, Nat.reduceMul, Nat.reduceSub, Int.reduceToNat, Int.reduceAdd, Int.reduceSub, Int.reduceMul, Int.reduceNeg] | with_reducible refine vIf_t ?_ | with_reducible refine vIf_f ?_)); refine vCall_ex (d1) (by simp (disch := omega) only [go_sem, Nat.reduceAdd]) rfl ?_); rintro _ _ ⟨ds, fs, rfl, rfl, D⟩; (refine ⟨(by first | exact Or.inl rfl | exact Or.inr ⟨rfl, rfl⟩ | (apply Or.inr; simp only [go_sem])), ?_⟩; (repeat (first | simp (maxSteps := 2000000) (disch := omega) only [go_sem, ↓reduceIte, Nat.reduceEqDiff, Nat.reduceAdd, Nat.reduceMul, Nat.reduceSub, Int.reduceToNat, Int.reduceAdd, Int.reduceSub, Int.reduceMul, Int.reduceNeg] | with_reducible refine vIf_t ?_ | with_reducible refine vIf_f ?_)))
    have e1 := a2At_ok more 0 256 hb' (by omega) (by omega) (by omega)
    have f1 := atV_bd more 0 256 hb' (by omega) (by omega)
    generalize atV more 0 256 = w at e1 f1
    unfold bS at e1
    have ew := (wrap_small (400 * w) ⟨by omega, by omega⟩).1
    have hT : 0 ≤ 400 * w ∧ 400 * w ≤ 200000 := by omega
    have F := dvF D _ hT
    have p1 := divide_ok ds fs D _ hT
    have p2 := duesOO_ok ds fs D _ hT
    have p3 := makeB_ok ds fs D _ hT
    generalize shV (400 * w) (wD ds fs) = du at *
    generalize blK (osV ds fs (400 * w)) 40 = bl at *
    generalize osV ds fs (400 * w) = os at *
    have hfl := D.fl
    unfold iS at p1 p2 p3
    rw [hfl] at p1 p2 p3
    (refine vCallX_fz 0 _ rfl (by (repeat (first | simp (maxSteps := 2000000) (disch := omega) only [go_sem, ↓reduceIte, Nat.reduceEqDiff, Nat.reduceAdd, Nat.reduceMul, Nat.reduceSub, Int.reduceToNat, Int.reduceAdd, Int.reduceSub, Int.reduceMul, Int.reduceNeg] | with_reducible refine vIf_t ?_ | with_reducible refine vIf_f ?_))) ?_; (repeat (first | simp (maxSteps := 2000000) (disch := omega) only [go_sem, ↓reduceIte, Nat.reduceEqDiff, Nat.reduceAdd, Nat.reduceMul, Nat.reduceSub, Int.reduceToNat, Int.reduceAdd, Int.reduceSub, Int.reduceMul, Int.reduceNeg] | with_reducible refine vIf_t ?_ | with_reducible refine vIf_f ?_)); refine vCallX_fz 1 _ rfl (by (repeat (first | simp (maxSteps := 2000000) (disch := omega) only [go_sem, ↓reduceIte, Nat.reduceEqDiff, Nat.reduceAdd, Nat.reduceMul, Nat.reduceSub, Int.reduceToNat, Int.reduceAdd, Int.reduceSub, Int.reduceMul, Int.reduceNeg] | with_reducible refine vIf_t ?_ | with_reducible refine vIf_f ?_))) ?_; (repeat (first | simp (maxSteps := 2000000) (disch := omega) only [go_sem, ↓reduceIte, Nat.reduceEqDiff, Nat.reduceAdd, Nat.reduceMul, Nat.reduceSub, Int.reduceToNat, Int.reduceAdd, Int.reduceSub, Int.reduceMul, Int.reduceNeg] | with_reducible refine vIf_t ?_ | with_reducible refine vIf_f ?_)))
    (refine vCallX_of ?_; (repeat (first | simp (maxSteps := 2000000) (disch := omega) only [go_sem, ↓reduceIte, Nat.reduceEqDiff, Nat.reduceAdd, Nat.reduceMul, Nat.reduceSub, Int.reduceToNat, Int.reduceAdd, Int.reduceSub, Int.reduceMul, Int.reduceNeg] | with_reducible refine vIf_t ?_ | with_reducible refine vIf_f ?_)); refine vCall_eq (e1) (by simp (disch := omega) only [go_sem, Nat.reduceAdd]) rfl (by first | exact Or.inl rfl | exact Or.inr ⟨rfl, rfl⟩ | (apply Or.inr; simp only [go_sem])) ?_; (repeat (first | simp (maxSteps := 2000000) (disch := omega) only [go_sem, ↓reduceIte, Nat.reduceEqDiff, Nat.reduceAdd, Nat.reduceMul, Nat.reduceSub, Int.reduceToNat, Int.reduceAdd, Int.reduceSub, Int.reduceMul, Int.reduceNeg] | with_reducible refine vIf_t ?_ | with_reducible refine vIf_f ?_)))
    (try (repeat (first | simp (maxSteps := 2000000) (disch := omega) only [go_sem, ↓reduceIte, Nat.reduceEqDiff, Nat.reduceAdd, Nat.reduceMul, Nat.reduceSub, Int.reduceToNat, Int.reduceAdd, Int.reduceSub, Int.reduceMul, Int.reduceNeg, ew] | with_reducible refine vIf_t ?_ | with_reducible refine vIf_f ?_)))
    generalize 400 * w = T at *
    have hn := D.n
    have hdl := F.dl
    have hol := F.ol
    have hbn := F.bn
    have s1 := a2SumD_ok du (by omega)
    have s2 := a2SumD_ok os (by omega)
    have pv := validBS_ok bl F.X
    rw [F.sm] at s1
    rw [F.om] at s2
    unfold iS at s1 s2
    rw [hdl] at s1
    rw [hol] at s2
    (refine vCallX_of ?_; (repeat (first | simp (maxSteps := 2000000) (disch := omega) only [go_sem, ↓reduceIte, Nat.reduceEqDiff, Nat.reduceAdd, Nat.reduceMul, Nat.reduceSub, Int.reduceToNat, Int.reduceAdd, Int.reduceSub, Int.reduceMul, Int.reduceNeg] | with_reducible refine vIf_t ?_ | with_reducible refine vIf_f ?_)); refine vCall_eq (p1) (by simp (disch := omega) only [go_sem, Nat.reduceAdd]) rfl (by first | exact Or.inl rfl | exact Or.inr ⟨rfl, rfl⟩ | (apply Or.inr; simp only [go_sem])) ?_; (repeat (first | simp (maxSteps := 2000000) (disch := omega) only [go_sem, ↓reduceIte, Nat.reduceEqDiff, Nat.reduceAdd, Nat.reduceMul, Nat.reduceSub, Int.reduceToNat, Int.reduceAdd, Int.reduceSub, Int.reduceMul, Int.reduceNeg] | with_reducible refine vIf_t ?_ | with_reducible refine vIf_f ?_)))
    (refine vCallX_fz 2 _ rfl (by (repeat (first | simp (maxSteps := 2000000) (disch := omega) only [go_sem, ↓reduceIte, Nat.reduceEqDiff, Nat.reduceAdd, Nat.reduceMul, Nat.reduceSub, Int.reduceToNat, Int.reduceAdd, Int.reduceSub, Int.reduceMul, Int.reduceNeg] | with_reducible refine vIf_t ?_ | with_reducible refine vIf_f ?_))) ?_; (repeat (first | simp (maxSteps := 2000000) (disch := omega) only [go_sem, ↓reduceIte, Nat.reduceEqDiff, Nat.reduceAdd, Nat.reduceMul, Nat.reduceSub, Int.reduceToNat, Int.reduceAdd, Int.reduceSub, Int.reduceMul, Int.reduceNeg] | with_reducible refine vIf_t ?_ | with_reducible refine vIf_f ?_)))
    (refine vCallX_of ?_; (repeat (first | simp (maxSteps := 2000000) (disch := omega) only [go_sem, ↓reduceIte, Nat.reduceEqDiff, Nat.reduceAdd, Nat.reduceMul, Nat.reduceSub, Int.reduceToNat, Int.reduceAdd, Int.reduceSub, Int.reduceMul, Int.reduceNeg] | with_reducible refine vIf_t ?_ | with_reducible refine vIf_f ?_)); refine vCall_eq (p2) (by simp (disch := omega) only [go_sem, Nat.reduceAdd]) rfl (by first | exact Or.inl rfl | exact Or.inr ⟨rfl, rfl⟩ | (apply Or.inr; simp only [go_sem])) ?_; (repeat (first | simp (maxSteps := 2000000) (disch := omega) only [go_sem, ↓reduceIte, Nat.reduceEqDiff, Nat.reduceAdd, Nat.reduceMul, Nat.reduceSub, Int.reduceToNat, Int.reduceAdd, Int.reduceSub, Int.reduceMul, Int.reduceNeg] | with_reducible refine vIf_t ?_ | with_reducible refine vIf_f ?_)))
    (refine vCallX_fz 3 _ rfl (by (repeat (first | simp (maxSteps := 2000000) (disch := omega) only [go_sem, ↓reduceIte, Nat.reduceEqDiff, Nat.reduceAdd, Nat.reduceMul, Nat.reduceSub, Int.reduceToNat, Int.reduceAdd, Int.reduceSub, Int.reduceMul, Int.reduceNeg] | with_reducible refine vIf_t ?_ | with_reducible refine vIf_f ?_))) ?_; (repeat (first | simp (maxSteps := 2000000) (disch := omega) only [go_sem, ↓reduceIte, Nat.reduceEqDiff, Nat.reduceAdd, Nat.reduceMul, Nat.reduceSub, Int.reduceToNat, Int.reduceAdd, Int.reduceSub, Int.reduceMul, Int.reduceNeg] | with_reducible refine vIf_t ?_ | with_reducible refine vIf_f ?_)))
    (refine vCallX_of ?_; (repeat (first | simp (maxSteps := 2000000) (disch := omega) only [go_sem, ↓reduceIte, Nat.reduceEqDiff, Nat.reduceAdd, Nat.reduceMul, Nat.reduceSub, Int.reduceToNat, Int.reduceAdd, Int.reduceSub, Int.reduceMul, Int.reduceNeg] | with_reducible refine vIf_t ?_ | with_reducible refine vIf_f ?_)); refine vCall_eq (p3) (by simp (disch := omega) only [go_sem, Nat.reduceAdd]) rfl (by first | exact Or.inl rfl | exact Or.inr ⟨rfl, rfl⟩ | (apply Or.inr; simp only [go_sem])) ?_; (repeat (first | simp (maxSteps := 2000000) (disch := omega) only [go_sem, ↓reduceIte, Nat.reduceEqDiff, Nat.reduceAdd, Nat.reduceMul, Nat.reduceSub, Int.reduceToNat, Int.reduceAdd, Int.reduceSub, Int.reduceMul, Int.reduceNeg] | with_reducible refine vIf_t ?_ | with_reducible refine vIf_f ?_)))
    (refine vCallX_fz 4 _ rfl (by (repeat (first | simp (maxSteps := 2000000) (disch := omega) only [go_sem, ↓reduceIte, Nat.reduceEqDiff, Nat.reduceAdd, Nat.reduceMul, Nat.reduceSub, Int.reduceToNat, Int.reduceAdd, Int.reduceSub, Int.reduceMul, Int.reduceNeg] | with_reducible refine vIf_t ?_ | with_reducible refine vIf_f ?_))) ?_; (repeat (first | simp (maxSteps := 2000000) (disch := omega) only [go_sem, ↓reduceIte, Nat.reduceEqDiff, Nat.reduceAdd, Nat.reduceMul, Nat.reduceSub, Int.reduceToNat, Int.reduceAdd, Int.reduceSub, Int.reduceMul, Int.reduceNeg] | with_reducible refine vIf_t ?_ | with_reducible refine vIf_f ?_)))
    (refine vCallX_of ?_; (repeat (first | simp (maxSteps := 2000000) (disch := omega) only [go_sem, ↓reduceIte, Nat.reduceEqDiff, Nat.reduceAdd, Nat.reduceMul, Nat.reduceSub, Int.reduceToNat, Int.reduceAdd, Int.reduceSub, Int.reduceMul, Int.reduceNeg] | with_reducible refine vIf_t ?_ | with_reducible refine vIf_f ?_)); refine vCall_eq (s1) (by simp (disch := omega) only [go_sem, Nat.reduceAdd]) rfl (by first | exact Or.inl rfl | exact Or.inr ⟨rfl, rfl⟩ | (apply Or.inr; simp only [go_sem])) ?_; (repeat (first | simp (maxSteps := 2000000) (disch := omega) only [go_sem, ↓reduceIte, Nat.reduceEqDiff, Nat.reduceAdd, Nat.reduceMul, Nat.reduceSub, Int.reduceToNat, Int.reduceAdd, Int.reduceSub, Int.reduceMul, Int.reduceNeg] | with_reducible refine vIf_t ?_ | with_reducible refine vIf_f ?_)))
    (refine vCallX_of ?_; (repeat (first | simp (maxSteps := 2000000) (disch := omega) only [go_sem, ↓reduceIte, Nat.reduceEqDiff, Nat.reduceAdd, Nat.reduceMul, Nat.reduceSub, Int.reduceToNat, Int.reduceAdd, Int.reduceSub, Int.reduceMul, Int.reduceNeg] | with_reducible refine vIf_t ?_ | with_reducible refine vIf_f ?_)); refine vCall_eq (s2) (by simp (disch := omega) only [go_sem, Nat.reduceAdd]) rfl (by first | exact Or.inl rfl | exact Or.inr ⟨rfl, rfl⟩ | (apply Or.inr; simp only [go_sem])) ?_; (repeat (first | simp (maxSteps := 2000000) (disch := omega) only [go_sem, ↓reduceIte, Nat.reduceEqDiff, Nat.reduceAdd, Nat.reduceMul, Nat.reduceSub, Int.reduceToNat, Int.reduceAdd, Int.reduceSub, Int.reduceMul, Int.reduceNeg] | with_reducible refine vIf_t ?_ | with_reducible refine vIf_f ?_)))
    (refine vCallX_of ?_; (repeat (first | simp (maxSteps := 2000000) (disch := omega) only [go_sem, ↓reduceIte, Nat.reduceEqDiff, Nat.reduceAdd, Nat.reduceMul, Nat.reduceSub, Int.reduceToNat, Int.reduceAdd, Int.reduceSub, Int.reduceMul, Int.reduceNeg] | with_reducible refine vIf_t ?_ | with_reducible refine vIf_f ?_)); refine vCall_eq (pv) (by simp (disch := omega) only [go_sem, Nat.reduceAdd]) rfl (by first | exact Or.inl rfl | exact Or.inr ⟨rfl, rfl⟩ | (apply Or.inr; simp only [go_sem])) ?_; (repeat (first | simp (maxSteps := 2000000) (disch := omega) only [go_sem, ↓reduceIte, Nat.reduceEqDiff, Nat.reduceAdd, Nat.reduceMul, Nat.reduceSub, Int.reduceToNat, Int.reduceAdd, Int.reduceSub, Int.reduceMul, Int.reduceNeg] | with_reducible refine vIf_t ?_ | with_reducible refine vIf_f ?_)))
    have hWp := wD_sum D
    refine vcLoop_invF (fun k : Nat => k ≤ ds.length) (fun k => ⟨226, 0, [(15, I k), (5, .sl ds.length (cPc ds)), (6, .sl 4 (ints fs)), (14, I (sumI ((wD ds fs).take k))), (8, .sl ds.length (ints du)), (7, I T), (12, .sl bl.length (cBl bl)), (10, .sl 40 (ints os))], []⟩) (fun k => ds.length - k) 0 (by omega) (by (first | (refine leF_s ?_; ((repeat (first | simp (maxSteps := 2000000) (disch := omega) only [go_sem, ↓reduceIte, Nat.reduceEqDiff, Nat.reduceAdd, Nat.reduceMul, Nat.reduceSub, Int.reduceToNat, Int.reduceAdd, Int.reduceSub, Int.reduceMul, Int.reduceNeg] | with_reducible refine vIf_t ?_ | with_reducible refine vIf_f ?_)); all_goals (try simp); all_goals (try omega)); done) | (refine leF_p ?_; ((repeat (first | simp (maxSteps := 2000000) (disch := omega) only [go_sem, ↓reduceIte, Nat.reduceEqDiff, Nat.reduceAdd, Nat.reduceMul, Nat.reduceSub, Int.reduceToNat, Int.reduceAdd, Int.reduceSub, Int.reduceMul, Int.reduceNeg] | with_reducible refine vIf_t ?_ | with_reducible refine vIf_f ?_)); all_goals (try simp); all_goals (try omega)); done))) ?_
    intro k hk
    (repeat (first | simp (maxSteps := 2000000) (disch := omega) only [go_sem, ↓reduceIte, Nat.reduceEqDiff, Nat.reduceAdd, Nat.reduceMul, Nat.reduceSub, Int.reduceToNat, Int.reduceAdd, Int.reduceSub, Int.reduceMul, Int.reduceNeg] | with_reducible refine vIf_t ?_ | with_reducible refine vIf_f ?_))
    refine vIf_dec (fun hh => ?_) (fun hh => ?_)
    · have hp := D.p k (by omega)
      have hb := wD_bd D k (by omega)
      have e3 := (wrap_small _ (show 0 ≤ (gPc ds k).area * gi fs (gPc ds k).cls.toNat ∧ _ by omega)).1
      have e4 := sum_take (wD ds fs) k (by rw [wD_len]; omega)
      rw [wD_at _ _ _ (by omega)] at e4
      have hbd := sum_take_le (wD ds fs) (fun i hi => by rw [wD_len] at hi; rw [wD_at _ _ _ hi]; have := wD_bd D i hi; omega) k
      have e5 := (wrap_small (sumI ((wD ds fs).take k) + (gPc ds k).area * gi fs (gPc ds k).cls.toNat) ⟨by omega, by omega⟩).1
      (repeat (first | simp (maxSteps := 2000000) (disch := omega) only [go_sem, ↓reduceIte, Nat.reduceEqDiff, Nat.reduceAdd, Nat.reduceMul, Nat.reduceSub, Int.reduceToNat, Int.reduceAdd, Int.reduceSub, Int.reduceMul, Int.reduceNeg] | with_reducible refine vIf_t ?_ | with_reducible refine vIf_f ?_))
      (refine vDraw_sch 15 [(0, false), (1, false), (2, false), (3, false), (4, false), (6, false), (7, false), (8, false), (9, false), (10, false), (5, false), (11, true), (12, false), (13, true), (14, false)] mixed (by kernel_rfl) ?_; simp only [List.cons_append, List.nil_append, List.map_cons, List.map_nil, nthO_zero, nthO_succ, List.drop_succ_cons, List.drop_zero, List.drop_nil]; (repeat (first | simp (maxSteps := 2000000) (disch := omega) only [go_sem, ↓reduceIte, Nat.reduceEqDiff, Nat.reduceAdd, Nat.reduceMul, Nat.reduceSub, Int.reduceToNat, Int.reduceAdd, Int.reduceSub, Int.reduceMul, Int.reduceNeg] | with_reducible refine vIf_t ?_ | with_reducible refine vIf_f ?_)))
      (repeat (first | simp (maxSteps := 2000000) (disch := omega) only [go_sem, ↓reduceIte, Nat.reduceEqDiff, Nat.reduceAdd, Nat.reduceMul, Nat.reduceSub, Int.reduceToNat, Int.reduceAdd, Int.reduceSub, Int.reduceMul, Int.reduceNeg, e3, e5, ← e4] | with_reducible refine vIf_t ?_ | with_reducible refine vIf_f ?_))
      refine againF (k + 1) ?_ ?_ (by (first | (refine leF_s ?_; ((repeat (first | simp (maxSteps := 2000000) (disch := omega) only [go_sem, ↓reduceIte, Nat.reduceEqDiff, Nat.reduceAdd, Nat.reduceMul, Nat.reduceSub, Int.reduceToNat, Int.reduceAdd, Int.reduceSub, Int.reduceMul, Int.reduceNeg] | with_reducible refine vIf_t ?_ | with_reducible refine vIf_f ?_)); all_goals (try simp); all_goals (try omega)); done) | (refine leF_p ?_; ((repeat (first | simp (maxSteps := 2000000) (disch := omega) only [go_sem, ↓reduceIte, Nat.reduceEqDiff, Nat.reduceAdd, Nat.reduceMul, Nat.reduceSub, Int.reduceToNat, Int.reduceAdd, Int.reduceSub, Int.reduceMul, Int.reduceNeg] | with_reducible refine vIf_t ?_ | with_reducible refine vIf_f ?_)); all_goals (try simp); all_goals (try omega)); done)))
      · omega
      · omega
    have hke : k = ds.length := by omega
    subst hke
    have eW : (wD ds fs).take ds.length = wD ds fs := List.take_of_length_le (by rw [wD_len]; omega)
    (repeat (first | simp (maxSteps := 2000000) (disch := omega) only [go_sem, ↓reduceIte, Nat.reduceEqDiff, Nat.reduceAdd, Nat.reduceMul, Nat.reduceSub, Int.reduceToNat, Int.reduceAdd, Int.reduceSub, Int.reduceMul, Int.reduceNeg, eW] | with_reducible refine vIf_t ?_ | with_reducible refine vIf_f ?_))
    clear eW
    refine vcLoop_invF (fun k : Nat => k ≤ ds.length) (fun k => ⟨226, 0, [(16, I k), (14, I (sumI (wD ds fs))), (8, .sl ds.length (ints du)), (5, .sl ds.length (cPc ds)), (6, .sl 4 (ints fs)), (7, I T), (12, .sl bl.length (cBl bl)), (10, .sl 40 (ints os))], []⟩) (fun k => ds.length - k) 0 (by omega) (by (first | (refine leF_s ?_; ((repeat (first | simp (maxSteps := 2000000) (disch := omega) only [go_sem, ↓reduceIte, Nat.reduceEqDiff, Nat.reduceAdd, Nat.reduceMul, Nat.reduceSub, Int.reduceToNat, Int.reduceAdd, Int.reduceSub, Int.reduceMul, Int.reduceNeg] | with_reducible refine vIf_t ?_ | with_reducible refine vIf_f ?_)); all_goals (try simp); all_goals (try omega)); done) | (refine leF_p ?_; ((repeat (first | simp (maxSteps := 2000000) (disch := omega) only [go_sem, ↓reduceIte, Nat.reduceEqDiff, Nat.reduceAdd, Nat.reduceMul, Nat.reduceSub, Int.reduceToNat, Int.reduceAdd, Int.reduceSub, Int.reduceMul, Int.reduceNeg] | with_reducible refine vIf_t ?_ | with_reducible refine vIf_f ?_)); all_goals (try simp); all_goals (try omega)); done))) ?_
    intro k hk
    (repeat (first | simp (maxSteps := 2000000) (disch := omega) only [go_sem, ↓reduceIte, Nat.reduceEqDiff, Nat.reduceAdd, Nat.reduceMul, Nat.reduceSub, Int.reduceToNat, Int.reduceAdd, Int.reduceSub, Int.reduceMul, Int.reduceNeg] | with_reducible refine vIf_t ?_ | with_reducible refine vIf_f ?_))
    refine vIf_dec (fun hh => ?_) (fun hh => ?_)
    · have hp := D.p k (by omega)
      have hb := wD_bd D k (by omega)
      have hfb := D.fi (gPc ds k).cls.toNat (by omega)
      have hdv := F.dv k (by omega)
      rw [wD_at _ _ _ (by omega)] at hdv
      have ha : 0 ≤ T * (gPc ds k).area ∧ T * (gPc ds k).area ≤ 200000 * 9000 := ⟨Int.mul_nonneg (by omega) (by omega), Int.mul_le_mul (by omega) (by omega) (by omega) (by omega)⟩
      have e3 := (wrap_small (T * (gPc ds k).area) ⟨by omega, by omega⟩).1
      have e4 : T * (gPc ds k).area * gi fs (gPc ds k).cls.toNat = T * ((gPc ds k).area * gi fs (gPc ds k).cls.toNat) := Int.mul_assoc ..
      have hx : 0 ≤ T * ((gPc ds k).area * gi fs (gPc ds k).cls.toNat) ∧ T * ((gPc ds k).area * gi fs (gPc ds k).cls.toNat) ≤ 200000 * 45000 := ⟨Int.mul_nonneg (by omega) (by omega), Int.mul_le_mul (by omega) (by omega) (by omega) (by omega)⟩
      have e5 := (wrap_small (T * ((gPc ds k).area * gi fs (gPc ds k).cls.toNat)) ⟨by omega, by omega⟩).1
      (repeat (first | simp (maxSteps := 2000000) (disch := omega) only [go_sem, ↓reduceIte, Nat.reduceEqDiff, Nat.reduceAdd, Nat.reduceMul, Nat.reduceSub, Int.reduceToNat, Int.reduceAdd, Int.reduceSub, Int.reduceMul, Int.reduceNeg] | with_reducible refine vIf_t ?_ | with_reducible refine vIf_f ?_))
      (refine vDraw_sch 15 [(0, false), (1, false), (2, false), (3, false), (4, false), (7, false), (8, false), (9, false), (10, false), (11, false), (5, false), (6, false), (12, true), (13, false), (14, true)] mixed (by kernel_rfl) ?_; simp only [List.cons_append, List.nil_append, List.map_cons, List.map_nil, nthO_zero, nthO_succ, List.drop_succ_cons, List.drop_zero, List.drop_nil]; (repeat (first | simp (maxSteps := 2000000) (disch := omega) only [go_sem, ↓reduceIte, Nat.reduceEqDiff, Nat.reduceAdd, Nat.reduceMul, Nat.reduceSub, Int.reduceToNat, Int.reduceAdd, Int.reduceSub, Int.reduceMul, Int.reduceNeg] | with_reducible refine vIf_t ?_ | with_reducible refine vIf_f ?_)))
      (repeat (first | simp (maxSteps := 2000000) (disch := omega) only [go_sem, ↓reduceIte, Nat.reduceEqDiff, Nat.reduceAdd, Nat.reduceMul, Nat.reduceSub, Int.reduceToNat, Int.reduceAdd, Int.reduceSub, Int.reduceMul, Int.reduceNeg, e3, e4, e5] | with_reducible refine vIf_t ?_ | with_reducible refine vIf_f ?_))
      generalize T * ((gPc ds k).area * gi fs (gPc ds k).cls.toNat) = E at *
      generalize sumI (wD ds fs) = W at *
      have q1 := Int.tdiv_eq_ediv_of_nonneg (a := E) (b := W) hx.1
      have q2 := Int.tmod_eq_emod_of_nonneg (a := E) (b := W) hx.1
      have q3 := Int.ediv_nonneg hx.1 (show 0 ≤ W by omega)
      have q4 := Int.ediv_le_self W hx.1
      have hW0 : W ≠ 0 := by omega
      have q5 := (wrap_small (E / W) ⟨by omega, by omega⟩).1
      have q6 := (wrap_small (E / W + 1) ⟨by omega, by omega⟩).1
      have c1 : decide (gi du k < E / W) = false := decide_eq_false (by omega)
      have c2 : decide (E / W + 1 < gi du k) = false := decide_eq_false (by omega)
      (refine vDraw_sch 31 ([(0, false), (1, false), (2, false), (4, false), (5, false), (6, false), (3, true), (7, false), (8, false), (9, false), (10, false), (11, false), (12, false), (13, false), (14, false), (15, false), (16, false), (17, false), (18, false), (19, false)] ++ [(20, false), (21, false), (22, false), (23, false), (24, false), (25, false), (26, false), (27, false), (28, false), (29, false), (30, false)]) mixed (by kernel_rfl) ?_; simp only [List.cons_append, List.nil_append, List.map_cons, List.map_nil, nthO_zero, nthO_succ, List.drop_succ_cons, List.drop_zero, List.drop_nil]; (repeat (first | simp (maxSteps := 2000000) (disch := omega) only [go_sem, ↓reduceIte, Nat.reduceEqDiff, Nat.reduceAdd, Nat.reduceMul, Nat.reduceSub, Int.reduceToNat, Int.reduceAdd, Int.reduceSub, Int.reduceMul, Int.reduceNeg] | with_reducible refine vIf_t ?_ | with_reducible refine vIf_f ?_)))
      (try (repeat (first | simp (maxSteps := 2000000) (disch := omega) only [go_sem, ↓reduceIte, Nat.reduceEqDiff, Nat.reduceAdd, Nat.reduceMul, Nat.reduceSub, Int.reduceToNat, Int.reduceAdd, Int.reduceSub, Int.reduceMul, Int.reduceNeg, q1, q2, q5, q6, c1, c2] | with_reducible refine vIf_t ?_ | with_reducible refine vIf_f ?_)))
      rcases hdv with hq | ⟨hq, hq2⟩
      · have c3 : decide (E / W < gi du k) = false := decide_eq_false (by omega)
        (try (repeat (first | simp (maxSteps := 2000000) (disch := omega) only [go_sem, ↓reduceIte, Nat.reduceEqDiff, Nat.reduceAdd, Nat.reduceMul, Nat.reduceSub, Int.reduceToNat, Int.reduceAdd, Int.reduceSub, Int.reduceMul, Int.reduceNeg, c3] | with_reducible refine vIf_t ?_ | with_reducible refine vIf_f ?_)))
        refine againF (k + 1) ?_ ?_ (by (first | (refine leF_s ?_; ((repeat (first | simp (maxSteps := 2000000) (disch := omega) only [go_sem, ↓reduceIte, Nat.reduceEqDiff, Nat.reduceAdd, Nat.reduceMul, Nat.reduceSub, Int.reduceToNat, Int.reduceAdd, Int.reduceSub, Int.reduceMul, Int.reduceNeg] | with_reducible refine vIf_t ?_ | with_reducible refine vIf_f ?_)); all_goals (try simp); all_goals (try omega)); done) | (refine leF_p ?_; ((repeat (first | simp (maxSteps := 2000000) (disch := omega) only [go_sem, ↓reduceIte, Nat.reduceEqDiff, Nat.reduceAdd, Nat.reduceMul, Nat.reduceSub, Int.reduceToNat, Int.reduceAdd, Int.reduceSub, Int.reduceMul, Int.reduceNeg] | with_reducible refine vIf_t ?_ | with_reducible refine vIf_f ?_)); all_goals (try simp); all_goals (try omega)); done)))
        · omega
        · omega
      · have c3 : decide (E / W < gi du k) = true := decide_eq_true (by omega)
        have c4 : (E % W == 0) = false := by simp; omega
        (try (repeat (first | simp (maxSteps := 2000000) (disch := omega) only [go_sem, ↓reduceIte, Nat.reduceEqDiff, Nat.reduceAdd, Nat.reduceMul, Nat.reduceSub, Int.reduceToNat, Int.reduceAdd, Int.reduceSub, Int.reduceMul, Int.reduceNeg, c3, q2, c4] | with_reducible refine vIf_t ?_ | with_reducible refine vIf_f ?_)))
        refine againF (k + 1) ?_ ?_ (by (first | (refine leF_s ?_; ((repeat (first | simp (maxSteps := 2000000) (disch := omega) only [go_sem, ↓reduceIte, Nat.reduceEqDiff, Nat.reduceAdd, Nat.reduceMul, Nat.reduceSub, Int.reduceToNat, Int.reduceAdd, Int.reduceSub, Int.reduceMul, Int.reduceNeg] | with_reducible refine vIf_t ?_ | with_reducible refine vIf_f ?_)); all_goals (try simp); all_goals (try omega)); done) | (refine leF_p ?_; ((repeat (first | simp (maxSteps := 2000000) (disch := omega) only [go_sem, ↓reduceIte, Nat.reduceEqDiff, Nat.reduceAdd, Nat.reduceMul, Nat.reduceSub, Int.reduceToNat, Int.reduceAdd, Int.reduceSub, Int.reduceMul, Int.reduceNeg] | with_reducible refine vIf_t ?_ | with_reducible refine vIf_f ?_)); all_goals (try simp); all_goals (try omega)); done)))
        · omega
        · omega
    (repeat (first | simp (maxSteps := 2000000) (disch := omega) only [go_sem, ↓reduceIte, Nat.reduceEqDiff, Nat.reduceAdd, Nat.reduceMul, Nat.reduceSub, Int.reduceToNat, Int.reduceAdd, Int.reduceSub, Int.reduceMul, Int.reduceNeg] | with_reducible refine vIf_t ?_ | with_reducible refine vIf_f ?_))
    refine vcLoop_invF (fun k : Nat => k ≤ bl.length) (fun k => ⟨226, 0, [(19, I k), (18, I (amB bl k)), (12, .sl bl.length (cBl bl)), (10, .sl 40 (ints os)), (7, I T)], []⟩) (fun k => bl.length - k) 0 (by omega) (by unfold amB; (first | (refine leF_s ?_; ((repeat (first | simp (maxSteps := 2000000) (disch := omega) only [go_sem, ↓reduceIte, Nat.reduceEqDiff, Nat.reduceAdd, Nat.reduceMul, Nat.reduceSub, Int.reduceToNat, Int.reduceAdd, Int.reduceSub, Int.reduceMul, Int.reduceNeg] | with_reducible refine vIf_t ?_ | with_reducible refine vIf_f ?_)); all_goals (try simp); all_goals (try omega)); done) | (refine leF_p ?_; ((repeat (first | simp (maxSteps := 2000000) (disch := omega) only [go_sem, ↓reduceIte, Nat.reduceEqDiff, Nat.reduceAdd, Nat.reduceMul, Nat.reduceSub, Int.reduceToNat, Int.reduceAdd, Int.reduceSub, Int.reduceMul, Int.reduceNeg] | with_reducible refine vIf_t ?_ | with_reducible refine vIf_f ?_)); all_goals (try simp); all_goals (try omega)); done))) ?_
    intro k hk
    (repeat (first | simp (maxSteps := 2000000) (disch := omega) only [go_sem, ↓reduceIte, Nat.reduceEqDiff, Nat.reduceAdd, Nat.reduceMul, Nat.reduceSub, Int.reduceToNat, Int.reduceAdd, Int.reduceSub, Int.reduceMul, Int.reduceNeg] | with_reducible refine vIf_t ?_ | with_reducible refine vIf_f ?_))
    refine vIf_dec (fun hh => ?_) (fun hh => ?_)
    · have hB := F.b k (by omega)
      have hsb := F.sb (k + 1)
      have hsu := amB_succ bl k (by omega)
      have e1 := (wrap_small (amB bl k + (gBl bl k).amt) ⟨by have := F.sb k; omega, by omega⟩).1
      have c1 : decide ((gBl bl k).amt < 1) = false := decide_eq_false (by omega)
      have c2 : ((gBl bl k).paid != 0) = false := by simpa using hB.2.1
      have c3 : ((gBl bl k).day != 5) = false := by simpa using hB.2.2.1
      have c4 : (gi os (gBl bl k).owner.toNat != (gBl bl k).amt) = false := by simpa using hB.2.2.2.2
      have hu : 0 < k → (gBl bl (k - 1)).owner < (gBl bl k).owner := fun h0 => by
        have := F.u (k - 1) (by omega)
        rwa [show k - 1 + 1 = k by omega] at this
      have k1 : 0 < k → ((k : Int) - 1).toNat = k - 1 := fun h0 => by omega
      have hB4 := hB.2.2.2.1
      (repeat (first | simp (maxSteps := 2000000) (disch := omega) only [go_sem, ↓reduceIte, Nat.reduceEqDiff, Nat.reduceAdd, Nat.reduceMul, Nat.reduceSub, Int.reduceToNat, Int.reduceAdd, Int.reduceSub, Int.reduceMul, Int.reduceNeg] | with_reducible refine vIf_t ?_ | with_reducible refine vIf_f ?_))
      (refine vDraw_sch 35 ([(0, false), (1, true), (2, false), (3, false), (4, false), (5, false), (6, false), (7, false), (8, false), (9, false), (10, false), (11, false), (12, false), (13, false), (14, false), (15, false), (16, false), (17, false), (18, false), (19, false)] ++ [(20, false), (21, false), (22, false), (23, false), (24, false), (25, false), (26, false), (27, false), (28, false), (29, false), (30, false), (31, false), (32, false), (33, false), (34, false)]) mixed (by kernel_rfl) ?_; simp only [List.cons_append, List.nil_append, List.map_cons, List.map_nil, nthO_zero, nthO_succ, List.drop_succ_cons, List.drop_zero, List.drop_nil]; (repeat (first | simp (maxSteps := 2000000) (disch := omega) only [go_sem, ↓reduceIte, Nat.reduceEqDiff, Nat.reduceAdd, Nat.reduceMul, Nat.reduceSub, Int.reduceToNat, Int.reduceAdd, Int.reduceSub, Int.reduceMul, Int.reduceNeg] | with_reducible refine vIf_t ?_ | with_reducible refine vIf_f ?_)))
      (try (repeat (first | simp (maxSteps := 2000000) (disch := omega) only [go_sem, ↓reduceIte, Nat.reduceEqDiff, Nat.reduceAdd, Nat.reduceMul, Nat.reduceSub, Int.reduceToNat, Int.reduceAdd, Int.reduceSub, Int.reduceMul, Int.reduceNeg, c1, c2, c3, c4] | with_reducible refine vIf_t ?_ | with_reducible refine vIf_f ?_)))
      by_cases h0 : 0 < k
      · have c5 : decide ((0 : Int) < (k : Int)) = true := decide_eq_true (by omega)
        have k2 := k1 h0
        have c6 : decide ((gBl bl k).owner ≤ (gBl bl (k - 1)).owner) = false := decide_eq_false (by have := hu h0; omega)
        (try (repeat (first | simp (maxSteps := 2000000) (disch := omega) only [go_sem, ↓reduceIte, Nat.reduceEqDiff, Nat.reduceAdd, Nat.reduceMul, Nat.reduceSub, Int.reduceToNat, Int.reduceAdd, Int.reduceSub, Int.reduceMul, Int.reduceNeg, c5, k2, c6, e1, ← hsu] | with_reducible refine vIf_t ?_ | with_reducible refine vIf_f ?_)))
        refine againF (k + 1) ?_ ?_ (by (first | (refine leF_s ?_; ((repeat (first | simp (maxSteps := 2000000) (disch := omega) only [go_sem, ↓reduceIte, Nat.reduceEqDiff, Nat.reduceAdd, Nat.reduceMul, Nat.reduceSub, Int.reduceToNat, Int.reduceAdd, Int.reduceSub, Int.reduceMul, Int.reduceNeg] | with_reducible refine vIf_t ?_ | with_reducible refine vIf_f ?_)); all_goals (try simp); all_goals (try omega)); done) | (refine leF_p ?_; ((repeat (first | simp (maxSteps := 2000000) (disch := omega) only [go_sem, ↓reduceIte, Nat.reduceEqDiff, Nat.reduceAdd, Nat.reduceMul, Nat.reduceSub, Int.reduceToNat, Int.reduceAdd, Int.reduceSub, Int.reduceMul, Int.reduceNeg] | with_reducible refine vIf_t ?_ | with_reducible refine vIf_f ?_)); all_goals (try simp); all_goals (try omega)); done)))
        · omega
        · omega
      · have c5 : decide ((0 : Int) < (k : Int)) = false := decide_eq_false (by omega)
        (try (repeat (first | simp (maxSteps := 2000000) (disch := omega) only [go_sem, ↓reduceIte, Nat.reduceEqDiff, Nat.reduceAdd, Nat.reduceMul, Nat.reduceSub, Int.reduceToNat, Int.reduceAdd, Int.reduceSub, Int.reduceMul, Int.reduceNeg, c5, e1, ← hsu] | with_reducible refine vIf_t ?_ | with_reducible refine vIf_f ?_)))
        refine againF (k + 1) ?_ ?_ (by (first | (refine leF_s ?_; ((repeat (first | simp (maxSteps := 2000000) (disch := omega) only [go_sem, ↓reduceIte, Nat.reduceEqDiff, Nat.reduceAdd, Nat.reduceMul, Nat.reduceSub, Int.reduceToNat, Int.reduceAdd, Int.reduceSub, Int.reduceMul, Int.reduceNeg] | with_reducible refine vIf_t ?_ | with_reducible refine vIf_f ?_)); all_goals (try simp); all_goals (try omega)); done) | (refine leF_p ?_; ((repeat (first | simp (maxSteps := 2000000) (disch := omega) only [go_sem, ↓reduceIte, Nat.reduceEqDiff, Nat.reduceAdd, Nat.reduceMul, Nat.reduceSub, Int.reduceToNat, Int.reduceAdd, Int.reduceSub, Int.reduceMul, Int.reduceNeg] | with_reducible refine vIf_t ?_ | with_reducible refine vIf_f ?_)); all_goals (try simp); all_goals (try omega)); done)))
        · omega
        · omega
    · have hs := F.s
      rw [show k = bl.length by omega, hs]
      (repeat (first | simp (maxSteps := 2000000) (disch := omega) only [go_sem, ↓reduceIte, Nat.reduceEqDiff, Nat.reduceAdd, Nat.reduceMul, Nat.reduceSub, Int.reduceToNat, Int.reduceAdd, Int.reduceSub, Int.reduceMul, Int.reduceNeg] | with_reducible refine vIf_t ?_ | with_reducible refine vIf_f ?_))
      (refine retK_of ?_; (repeat (first | simp (maxSteps := 2000000) (disch := omega) only [go_sem, ↓reduceIte, Nat.reduceEqDiff, Nat.reduceAdd, Nat.reduceMul, Nat.reduceSub, Int.reduceToNat, Int.reduceAdd, Int.reduceSub, Int.reduceMul, Int.reduceNeg] | with_reducible refine vIf_t ?_ | with_reducible refine vIf_f ?_)))
end Go.Proofs.Ytilocioajpcoiaa

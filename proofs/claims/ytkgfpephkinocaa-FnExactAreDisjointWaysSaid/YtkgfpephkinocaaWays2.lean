/- lands: disjoint ways: plain law and the program's walk -/
import Derived.Test.YtkgfpephkinocaaWays
set_option linter.unusedVariables false
set_option linter.unusedSimpArgs false
namespace Go.Proofs.Ytkgfpephkinocaa
open Go.AG

@[go_sem] theorem rep2 (z : Int) : List.replicate 2 z = [z, z] := rfl
@[go_sem] theorem wrI0 (a b c : Int) : wr [a, b] 0 [c] = [c, b] := rfl
@[go_sem] theorem wrI1 (a b c : Int) : wr [a, b] 1 [c] = [a, c] := rfl
attribute [go_sem] List.take_length
@[go_sem] theorem len2 (a b : Int) : [a, b].length = 2 := rfl
/-- the inner cells of a way -/
def inn (w : List Int) : List Int := (w.drop 1).take (w.length - 2)
theorem inn_len (w : List Int) (h : 3 ≤ w.length) : (inn w).length = w.length - 2 := by simp [inn]; omega
theorem inn_get (w : List Int) (p : Nat) (h : p + 2 < w.length) : gi (inn w) p = gi w (p + 1) := by
  rw [gi_lt _ _ (by rw [inn_len w (by omega)]; omega), gi_lt _ _ (by omega)]
  simp [inn, Nat.add_comm]
def okI (c d : Int) (L : List Int) : Bool := allB L.length fun p => !decide (gi L p ∈ [c, d] ++ L.take p)
theorem okI_snoc {c d : Int} {L : List Int} {x : Int} (h : okI c d L = true) (hx : ¬ x ∈ [c, d] ++ L) : okI c d (L ++ [x]) = true := by
  refine allB_yes fun p hp => ?_
  by_cases e : p < L.length
  · have := allB_get h p e
    rw [gi_append_left _ _ _ e, List.take_append_of_le_length (by omega)]; exact this
  · have : p = L.length := by simp at hp; omega
    subst this
    rw [gi_append_right _ _ _ (Nat.le_refl _), List.take_left]
    simp only [Nat.sub_self]
    show (!decide (x ∈ [c, d] ++ L)) = true
    rw [decide_eq_false hx]; rfl
theorem okI_no {c d : Int} {A B : List Int} {x : Int} (hx : x ∈ [c, d] ++ A) : okI c d (A ++ x :: B) = false := by
  refine allB_no A.length (by simp) ?_
  rw [gi_append_right _ _ _ (Nat.le_refl _), List.take_left]
  simp only [Nat.sub_self]
  show (!decide (x ∈ [c, d] ++ A)) = false
  rw [decide_eq_true hx]; rfl
def innP (ways : List (List Int)) (j : Nat) : List Int := (ways.take j).flatMap inn
theorem innP_succ (ways : List (List Int)) (j : Nat) (h : j < ways.length) : innP ways (j + 1) = innP ways j ++ inn (gr ways j) := by
  have e : gr ways j = ways[j] := by simp [gr, h]
  unfold innP
  rw [List.take_succ_eq_append_getElem h, List.flatMap_append, e]; simp
theorem innP_all (ways : List (List Int)) (j : Nat) (h : j < ways.length) (p : Nat) (hp : p < (inn (gr ways j)).length) : ∃ B, ways.flatMap inn = (innP ways j ++ (inn (gr ways j)).take p) ++ gi (inn (gr ways j)) p :: B := by
  have e1 : ways = ways.take j ++ gr ways j :: ways.drop (j + 1) := by
    rw [show gr ways j = ways[j] by simp [gr, h], ← List.drop_eq_getElem_cons h, List.take_append_drop]
  refine ⟨(inn (gr ways j)).drop (p + 1) ++ (ways.drop (j + 1)).flatMap inn, ?_⟩
  have e2 : inn (gr ways j) = (inn (gr ways j)).take p ++ gi (inn (gr ways j)) p :: (inn (gr ways j)).drop (p + 1) := by
    rw [gi_lt _ _ hp, ← List.drop_eq_getElem_cons hp, List.take_append_drop]
  rw [e1, List.flatMap_append, List.flatMap_cons]
  rw [← e1]
  unfold innP
  conv => lhs; rw [e2]
  simp
def dwB (l : Ld) (ways : List (List Int)) (c d lv : Int) : Bool := allB ways.length (fun j => wayB l (gr ways j) c d lv) && okI c d (ways.flatMap inn)
theorem wayB_len {l : Ld} {w : List Int} {c d lv : Int} (h : wayB l w c d lv = true) : 3 ≤ w.length := by
  simp only [wayB, Bool.and_eq_true, decide_eq_true_eq] at h
  exact h.2.1

set_option maxRecDepth 100000 in
set_option maxHeartbeats 8000000 in
theorem ways_ok (l : Ld) (ways : List (List Int)) (c d lv : Int) (hl : l.hs.length ≤ 10000000) (hw : ways.length ≤ 10000000) (hwl : ∀ j, j < ways.length → (gr ways j).length ≤ 10000000) (hsum : ∀ j, j ≤ ways.length → (innP ways j).length ≤ 5000000) :
    ACalls Try.prog 41 [.agg (lC l), I c, I d, I lv, .sl ways.length (rws ways)] [] (fun r o => r = .tup [B (decide (wcC l c d lv = 0) && dwB l ways c d lv), I (wcC l c d lv)] ∧ o = []) := by
  refine ACalls.of_vc Try.func41 rfl (by decide) 61 rfl [.tmp 10, .tmp 11] rfl (by simp) ?_
  have hv := wallCode_ok l c d lv hl
  unfold lC at hv ⊢
  (simp (maxSteps := 2000000) (disch := omega) only [go_sem, Nat.reduceEqDiff, Nat.reduceAdd, Nat.reduceMul, Nat.reduceSub, Int.reduceToNat, Int.reduceAdd, Int.reduceSub, Int.reduceMul, Int.reduceNeg]; repeat ((first | refine vIf_t ?_ | refine vIf_f ?_); simp (maxSteps := 2000000) (disch := omega) only [go_sem, Nat.reduceEqDiff, Nat.reduceAdd, Nat.reduceMul, Nat.reduceSub, Int.reduceToNat, Int.reduceAdd, Int.reduceSub, Int.reduceMul, Int.reduceNeg]))
  (refine vCallX_of ?_; (simp (maxSteps := 2000000) (disch := omega) only [go_sem, Nat.reduceEqDiff, Nat.reduceAdd, Nat.reduceMul, Nat.reduceSub, Int.reduceToNat, Int.reduceAdd, Int.reduceSub, Int.reduceMul, Int.reduceNeg]; repeat ((first | refine vIf_t ?_ | refine vIf_f ?_); simp (maxSteps := 2000000) (disch := omega) only [go_sem, Nat.reduceEqDiff, Nat.reduceAdd, Nat.reduceMul, Nat.reduceSub, Int.reduceToNat, Int.reduceAdd, Int.reduceSub, Int.reduceMul, Int.reduceNeg])); refine vCall_eq (hv) (by simp (disch := omega) only [go_sem, Nat.reduceAdd]) rfl (by first | exact Or.inl rfl | exact Or.inr ⟨rfl, rfl⟩ | (apply Or.inr; simp only [go_sem])) ?_; (simp (maxSteps := 2000000) (disch := omega) only [go_sem, Nat.reduceEqDiff, Nat.reduceAdd, Nat.reduceMul, Nat.reduceSub, Int.reduceToNat, Int.reduceAdd, Int.reduceSub, Int.reduceMul, Int.reduceNeg]; repeat ((first | refine vIf_t ?_ | refine vIf_f ?_); simp (maxSteps := 2000000) (disch := omega) only [go_sem, Nat.reduceEqDiff, Nat.reduceAdd, Nat.reduceMul, Nat.reduceSub, Int.reduceToNat, Int.reduceAdd, Int.reduceSub, Int.reduceMul, Int.reduceNeg])))
  refine vIf_bne (fun h0 => ?_) (fun h0 => ?_)
  · (simp (maxSteps := 2000000) (disch := omega) only [go_sem, Nat.reduceEqDiff, Nat.reduceAdd, Nat.reduceMul, Nat.reduceSub, Int.reduceToNat, Int.reduceAdd, Int.reduceSub, Int.reduceMul, Int.reduceNeg]; repeat ((first | refine vIf_t ?_ | refine vIf_f ?_); simp (maxSteps := 2000000) (disch := omega) only [go_sem, Nat.reduceEqDiff, Nat.reduceAdd, Nat.reduceMul, Nat.reduceSub, Int.reduceToNat, Int.reduceAdd, Int.reduceSub, Int.reduceMul, Int.reduceNeg]))
    (refine retK_of ?_; (simp (maxSteps := 2000000) (disch := omega) only [go_sem, Nat.reduceEqDiff, Nat.reduceAdd, Nat.reduceMul, Nat.reduceSub, Int.reduceToNat, Int.reduceAdd, Int.reduceSub, Int.reduceMul, Int.reduceNeg]; repeat ((first | refine vIf_t ?_ | refine vIf_f ?_); simp (maxSteps := 2000000) (disch := omega) only [go_sem, Nat.reduceEqDiff, Nat.reduceAdd, Nat.reduceMul, Nat.reduceSub, Int.reduceToNat, Int.reduceAdd, Int.reduceSub, Int.reduceMul, Int.reduceNeg])))
    try simp [h0]
  have hok : okL l = true := by
    cases h : okL l with
    | true => rfl
    | false => simp [wcC, h] at h0
  (simp (maxSteps := 2000000) (disch := omega) only [go_sem, Nat.reduceEqDiff, Nat.reduceAdd, Nat.reduceMul, Nat.reduceSub, Int.reduceToNat, Int.reduceAdd, Int.reduceSub, Int.reduceMul, Int.reduceNeg]; repeat ((first | refine vIf_t ?_ | refine vIf_f ?_); simp (maxSteps := 2000000) (disch := omega) only [go_sem, Nat.reduceEqDiff, Nat.reduceAdd, Nat.reduceMul, Nat.reduceSub, Int.reduceToNat, Int.reduceAdd, Int.reduceSub, Int.reduceMul, Int.reduceNeg]))
  refine vcLoop_inv (fun j : Nat => j ≤ ways.length ∧ (∀ i, i < j → wayB l (gr ways i) c d lv = true) ∧ okI c d (innP ways j) = true) (fun j => ⟨61, 0, [(1, I c), (2, I d), (3, I lv), (5, .ptr 0 0), (13, .ref 1 0 ([c, d] ++ innP ways j).length), (29, .sl ways.length (rws ways)), (30, I ways.length), (31, I j)], [some ⟨3, lC l⟩, oI ([c, d] ++ innP ways j)]⟩) (fun j => ways.length - j) 0 ⟨by omega, fun i hi => by omega, rfl⟩ (by (simp (maxSteps := 2000000) (disch := omega) only [go_sem, Nat.reduceEqDiff, Nat.reduceAdd, Nat.reduceMul, Nat.reduceSub, Int.reduceToNat, Int.reduceAdd, Int.reduceSub, Int.reduceMul, Int.reduceNeg, lC, innP, List.flatMap_nil]; repeat ((first | refine vIf_t ?_ | refine vIf_f ?_); simp (maxSteps := 2000000) (disch := omega) only [go_sem, Nat.reduceEqDiff, Nat.reduceAdd, Nat.reduceMul, Nat.reduceSub, Int.reduceToNat, Int.reduceAdd, Int.reduceSub, Int.reduceMul, Int.reduceNeg, lC, innP, List.flatMap_nil])); all_goals (try simp)) ?_
  intro j ⟨hj, he, hI⟩
  have hs := hsum j hj
  unfold lC oI
  (simp (maxSteps := 2000000) (disch := omega) only [go_sem, Nat.reduceEqDiff, Nat.reduceAdd, Nat.reduceMul, Nat.reduceSub, Int.reduceToNat, Int.reduceAdd, Int.reduceSub, Int.reduceMul, Int.reduceNeg]; repeat ((first | refine vIf_t ?_ | refine vIf_f ?_); simp (maxSteps := 2000000) (disch := omega) only [go_sem, Nat.reduceEqDiff, Nat.reduceAdd, Nat.reduceMul, Nat.reduceSub, Int.reduceToNat, Int.reduceAdd, Int.reduceSub, Int.reduceMul, Int.reduceNeg]))
  refine vIf_dec (fun hc => ?_) (fun hc => ?_)
  · have hjl : j < ways.length := by omega
    have hwj := hwl j hjl
    have hway := isWay_ok l (gr ways j) c d lv hok hl hwj
    unfold lC iS at hway
    (simp (maxSteps := 2000000) (disch := omega) only [go_sem, Nat.reduceEqDiff, Nat.reduceAdd, Nat.reduceMul, Nat.reduceSub, Int.reduceToNat, Int.reduceAdd, Int.reduceSub, Int.reduceMul, Int.reduceNeg]; repeat ((first | refine vIf_t ?_ | refine vIf_f ?_); simp (maxSteps := 2000000) (disch := omega) only [go_sem, Nat.reduceEqDiff, Nat.reduceAdd, Nat.reduceMul, Nat.reduceSub, Int.reduceToNat, Int.reduceAdd, Int.reduceSub, Int.reduceMul, Int.reduceNeg]))
    (refine vCallX_of ?_; (simp (maxSteps := 2000000) (disch := omega) only [go_sem, Nat.reduceEqDiff, Nat.reduceAdd, Nat.reduceMul, Nat.reduceSub, Int.reduceToNat, Int.reduceAdd, Int.reduceSub, Int.reduceMul, Int.reduceNeg]; repeat ((first | refine vIf_t ?_ | refine vIf_f ?_); simp (maxSteps := 2000000) (disch := omega) only [go_sem, Nat.reduceEqDiff, Nat.reduceAdd, Nat.reduceMul, Nat.reduceSub, Int.reduceToNat, Int.reduceAdd, Int.reduceSub, Int.reduceMul, Int.reduceNeg])); refine vCall_eq (hway) (by simp (disch := omega) only [go_sem, Nat.reduceAdd]) rfl (by first | exact Or.inl rfl | exact Or.inr ⟨rfl, rfl⟩ | (apply Or.inr; simp only [go_sem])) ?_; (simp (maxSteps := 2000000) (disch := omega) only [go_sem, Nat.reduceEqDiff, Nat.reduceAdd, Nat.reduceMul, Nat.reduceSub, Int.reduceToNat, Int.reduceAdd, Int.reduceSub, Int.reduceMul, Int.reduceNeg]; repeat ((first | refine vIf_t ?_ | refine vIf_f ?_); simp (maxSteps := 2000000) (disch := omega) only [go_sem, Nat.reduceEqDiff, Nat.reduceAdd, Nat.reduceMul, Nat.reduceSub, Int.reduceToNat, Int.reduceAdd, Int.reduceSub, Int.reduceMul, Int.reduceNeg])))
    refine vIf_not (fun h1 => ?_) (fun h1 => ?_)
    · (simp (maxSteps := 2000000) (disch := omega) only [go_sem, Nat.reduceEqDiff, Nat.reduceAdd, Nat.reduceMul, Nat.reduceSub, Int.reduceToNat, Int.reduceAdd, Int.reduceSub, Int.reduceMul, Int.reduceNeg]; repeat ((first | refine vIf_t ?_ | refine vIf_f ?_); simp (maxSteps := 2000000) (disch := omega) only [go_sem, Nat.reduceEqDiff, Nat.reduceAdd, Nat.reduceMul, Nat.reduceSub, Int.reduceToNat, Int.reduceAdd, Int.reduceSub, Int.reduceMul, Int.reduceNeg]))
      (refine retK_of ?_; (simp (maxSteps := 2000000) (disch := omega) only [go_sem, Nat.reduceEqDiff, Nat.reduceAdd, Nat.reduceMul, Nat.reduceSub, Int.reduceToNat, Int.reduceAdd, Int.reduceSub, Int.reduceMul, Int.reduceNeg]; repeat ((first | refine vIf_t ?_ | refine vIf_f ?_); simp (maxSteps := 2000000) (disch := omega) only [go_sem, Nat.reduceEqDiff, Nat.reduceAdd, Nat.reduceMul, Nat.reduceSub, Int.reduceToNat, Int.reduceAdd, Int.reduceSub, Int.reduceMul, Int.reduceNeg])))
      rw [dwB, allB_no j hjl h1]; simp [h0]
    · have h3 := wayB_len h1
      have hil := inn_len (gr ways j) h3
      have ei : ((gr ways j).drop 1).take ((gr ways j).length - 2) = inn (gr ways j) := rfl
      have en : (((gr ways j).length : Int) - 1 - 1).toNat = (gr ways j).length - 2 := by omega
      (simp (maxSteps := 2000000) (disch := omega) only [go_sem, Nat.reduceEqDiff, Nat.reduceAdd, Nat.reduceMul, Nat.reduceSub, Int.reduceToNat, Int.reduceAdd, Int.reduceSub, Int.reduceMul, Int.reduceNeg, en, ei]; repeat ((first | refine vIf_t ?_ | refine vIf_f ?_); simp (maxSteps := 2000000) (disch := omega) only [go_sem, Nat.reduceEqDiff, Nat.reduceAdd, Nat.reduceMul, Nat.reduceSub, Int.reduceToNat, Int.reduceAdd, Int.reduceSub, Int.reduceMul, Int.reduceNeg, en, ei]))
      refine vcLoop_inv (fun p : Nat => p ≤ (inn (gr ways j)).length ∧ okI c d (innP ways j ++ (inn (gr ways j)).take p) = true) (fun p => ⟨61, 0, [(48, I p), (47, I (inn (gr ways j)).length), (46, .sl (inn (gr ways j)).length (ints (inn (gr ways j)))), (1, I c), (2, I d), (3, I lv), (5, .ptr 0 0), (13, .ref 1 0 (c :: d :: (innP ways j ++ (inn (gr ways j)).take p)).length), (29, .sl ways.length (rws ways)), (30, I ways.length), (31, I j)], [some ⟨3, lC l⟩, oI (c :: d :: (innP ways j ++ (inn (gr ways j)).take p))]⟩) (fun p => (inn (gr ways j)).length - p) 0 ⟨by omega, by simpa using hI⟩ (by (simp (maxSteps := 2000000) (disch := omega) only [go_sem, Nat.reduceEqDiff, Nat.reduceAdd, Nat.reduceMul, Nat.reduceSub, Int.reduceToNat, Int.reduceAdd, Int.reduceSub, Int.reduceMul, Int.reduceNeg, lC, hil]; repeat ((first | refine vIf_t ?_ | refine vIf_f ?_); simp (maxSteps := 2000000) (disch := omega) only [go_sem, Nat.reduceEqDiff, Nat.reduceAdd, Nat.reduceMul, Nat.reduceSub, Int.reduceToNat, Int.reduceAdd, Int.reduceSub, Int.reduceMul, Int.reduceNeg, lC, hil])); all_goals (try simp)) ?_
      intro p ⟨hp, hIp⟩
      have hlp : ((inn (gr ways j)).take p).length = p := by simp; omega
      have hs1 := hsum (j + 1) (by omega)
      rw [innP_succ ways j hjl, List.length_append] at hs1
      obtain ⟨L, hL⟩ : ∃ L, L = innP ways j ++ (inn (gr ways j)).take p := ⟨_, rfl⟩
      have hLl : L.length = (innP ways j).length + p := by rw [hL, List.length_append, hlp]
      rw [← hL] at hIp
      unfold lC oI
      simp only [← hL]
      (simp (maxSteps := 2000000) (disch := omega) only [go_sem, Nat.reduceEqDiff, Nat.reduceAdd, Nat.reduceMul, Nat.reduceSub, Int.reduceToNat, Int.reduceAdd, Int.reduceSub, Int.reduceMul, Int.reduceNeg]; repeat ((first | refine vIf_t ?_ | refine vIf_f ?_); simp (maxSteps := 2000000) (disch := omega) only [go_sem, Nat.reduceEqDiff, Nat.reduceAdd, Nat.reduceMul, Nat.reduceSub, Int.reduceToNat, Int.reduceAdd, Int.reduceSub, Int.reduceMul, Int.reduceNeg]))
      refine vIf_dec (fun hc2 => ?_) (fun hc2 => ?_)
      · have hpl : p < (inn (gr ways j)).length := by omega
        have hh := has_ok (c :: d :: L) (gi (inn (gr ways j)) p) (by simp only [List.length_cons]; omega)
        unfold iS at hh
        simp only [List.length_cons] at hh
        (simp (maxSteps := 2000000) (disch := omega) only [go_sem, Nat.reduceEqDiff, Nat.reduceAdd, Nat.reduceMul, Nat.reduceSub, Int.reduceToNat, Int.reduceAdd, Int.reduceSub, Int.reduceMul, Int.reduceNeg]; repeat ((first | refine vIf_t ?_ | refine vIf_f ?_); simp (maxSteps := 2000000) (disch := omega) only [go_sem, Nat.reduceEqDiff, Nat.reduceAdd, Nat.reduceMul, Nat.reduceSub, Int.reduceToNat, Int.reduceAdd, Int.reduceSub, Int.reduceMul, Int.reduceNeg]))
        (refine vCallX_of ?_; (simp (maxSteps := 2000000) (disch := omega) only [go_sem, Nat.reduceEqDiff, Nat.reduceAdd, Nat.reduceMul, Nat.reduceSub, Int.reduceToNat, Int.reduceAdd, Int.reduceSub, Int.reduceMul, Int.reduceNeg]; repeat ((first | refine vIf_t ?_ | refine vIf_f ?_); simp (maxSteps := 2000000) (disch := omega) only [go_sem, Nat.reduceEqDiff, Nat.reduceAdd, Nat.reduceMul, Nat.reduceSub, Int.reduceToNat, Int.reduceAdd, Int.reduceSub, Int.reduceMul, Int.reduceNeg])); refine vCall_eq (hh) (by simp (disch := omega) only [go_sem, Nat.reduceAdd]) rfl (by first | exact Or.inl rfl | exact Or.inr ⟨rfl, rfl⟩ | (apply Or.inr; simp only [go_sem])) ?_; (simp (maxSteps := 2000000) (disch := omega) only [go_sem, Nat.reduceEqDiff, Nat.reduceAdd, Nat.reduceMul, Nat.reduceSub, Int.reduceToNat, Int.reduceAdd, Int.reduceSub, Int.reduceMul, Int.reduceNeg]; repeat ((first | refine vIf_t ?_ | refine vIf_f ?_); simp (maxSteps := 2000000) (disch := omega) only [go_sem, Nat.reduceEqDiff, Nat.reduceAdd, Nat.reduceMul, Nat.reduceSub, Int.reduceToNat, Int.reduceAdd, Int.reduceSub, Int.reduceMul, Int.reduceNeg])))
        refine vIf_dec (fun hd => ?_) (fun hd => ?_)
        · obtain ⟨B, hB⟩ := innP_all ways j hjl p hpl
          have hno : okI c d (ways.flatMap inn) = false := by rw [hB, ← hL]; exact okI_no hd
          (simp (maxSteps := 2000000) (disch := omega) only [go_sem, Nat.reduceEqDiff, Nat.reduceAdd, Nat.reduceMul, Nat.reduceSub, Int.reduceToNat, Int.reduceAdd, Int.reduceSub, Int.reduceMul, Int.reduceNeg]; repeat ((first | refine vIf_t ?_ | refine vIf_f ?_); simp (maxSteps := 2000000) (disch := omega) only [go_sem, Nat.reduceEqDiff, Nat.reduceAdd, Nat.reduceMul, Nat.reduceSub, Int.reduceToNat, Int.reduceAdd, Int.reduceSub, Int.reduceMul, Int.reduceNeg]))
          (refine retK_of ?_; (simp (maxSteps := 2000000) (disch := omega) only [go_sem, Nat.reduceEqDiff, Nat.reduceAdd, Nat.reduceMul, Nat.reduceSub, Int.reduceToNat, Int.reduceAdd, Int.reduceSub, Int.reduceMul, Int.reduceNeg]; repeat ((first | refine vIf_t ?_ | refine vIf_f ?_); simp (maxSteps := 2000000) (disch := omega) only [go_sem, Nat.reduceEqDiff, Nat.reduceAdd, Nat.reduceMul, Nat.reduceSub, Int.reduceToNat, Int.reduceAdd, Int.reduceSub, Int.reduceMul, Int.reduceNeg])))
          rw [dwB, hno, Bool.and_false]; simp [h0]
        · have e : innP ways j ++ (inn (gr ways j)).take (p + 1) = L ++ [gi (inn (gr ways j)) p] := by rw [take_succ_gi _ _ hpl, hL, List.append_assoc]
          (simp (maxSteps := 2000000) (disch := omega) only [go_sem, Nat.reduceEqDiff, Nat.reduceAdd, Nat.reduceMul, Nat.reduceSub, Int.reduceToNat, Int.reduceAdd, Int.reduceSub, Int.reduceMul, Int.reduceNeg]; repeat ((first | refine vIf_t ?_ | refine vIf_f ?_); simp (maxSteps := 2000000) (disch := omega) only [go_sem, Nat.reduceEqDiff, Nat.reduceAdd, Nat.reduceMul, Nat.reduceSub, Int.reduceToNat, Int.reduceAdd, Int.reduceSub, Int.reduceMul, Int.reduceNeg]))
          refine again (p + 1) ⟨by omega, by rw [e]; exact okI_snoc hIp hd⟩ (by omega) ?_
          simp only [e]
          (simp (maxSteps := 2000000) (disch := omega) only [go_sem, Nat.reduceEqDiff, Nat.reduceAdd, Nat.reduceMul, Nat.reduceSub, Int.reduceToNat, Int.reduceAdd, Int.reduceSub, Int.reduceMul, Int.reduceNeg, lC]; repeat ((first | refine vIf_t ?_ | refine vIf_f ?_); simp (maxSteps := 2000000) (disch := omega) only [go_sem, Nat.reduceEqDiff, Nat.reduceAdd, Nat.reduceMul, Nat.reduceSub, Int.reduceToNat, Int.reduceAdd, Int.reduceSub, Int.reduceMul, Int.reduceNeg, lC]))
          all_goals (try omega)
      · have e : (inn (gr ways j)).take p = inn (gr ways j) := List.take_of_length_le (by omega)
        have e2 : innP ways (j + 1) = L := by rw [innP_succ ways j hjl, hL, e]
        (simp (maxSteps := 2000000) (disch := omega) only [go_sem, Nat.reduceEqDiff, Nat.reduceAdd, Nat.reduceMul, Nat.reduceSub, Int.reduceToNat, Int.reduceAdd, Int.reduceSub, Int.reduceMul, Int.reduceNeg]; repeat ((first | refine vIf_t ?_ | refine vIf_f ?_); simp (maxSteps := 2000000) (disch := omega) only [go_sem, Nat.reduceEqDiff, Nat.reduceAdd, Nat.reduceMul, Nat.reduceSub, Int.reduceToNat, Int.reduceAdd, Int.reduceSub, Int.reduceMul, Int.reduceNeg]))
        refine again (j + 1) ⟨by omega, upto_snoc he h1, by rw [e2]; exact hIp⟩ (by omega) ?_
        simp only [e2]
        (simp (maxSteps := 2000000) (disch := omega) only [go_sem, Nat.reduceEqDiff, Nat.reduceAdd, Nat.reduceMul, Nat.reduceSub, Int.reduceToNat, Int.reduceAdd, Int.reduceSub, Int.reduceMul, Int.reduceNeg, lC]; repeat ((first | refine vIf_t ?_ | refine vIf_f ?_); simp (maxSteps := 2000000) (disch := omega) only [go_sem, Nat.reduceEqDiff, Nat.reduceAdd, Nat.reduceMul, Nat.reduceSub, Int.reduceToNat, Int.reduceAdd, Int.reduceSub, Int.reduceMul, Int.reduceNeg, lC]))
        all_goals (try simp)
  · have e : j = ways.length := by omega
    subst e
    have hall : allB ways.length (fun i => wayB l (gr ways i) c d lv) = true := allB_yes he
    have hI2 : okI c d (ways.flatMap inn) = true := by rw [innP, List.take_length] at hI; exact hI
    (simp (maxSteps := 2000000) (disch := omega) only [go_sem, Nat.reduceEqDiff, Nat.reduceAdd, Nat.reduceMul, Nat.reduceSub, Int.reduceToNat, Int.reduceAdd, Int.reduceSub, Int.reduceMul, Int.reduceNeg]; repeat ((first | refine vIf_t ?_ | refine vIf_f ?_); simp (maxSteps := 2000000) (disch := omega) only [go_sem, Nat.reduceEqDiff, Nat.reduceAdd, Nat.reduceMul, Nat.reduceSub, Int.reduceToNat, Int.reduceAdd, Int.reduceSub, Int.reduceMul, Int.reduceNeg]))
    (refine retK_of ?_; (simp (maxSteps := 2000000) (disch := omega) only [go_sem, Nat.reduceEqDiff, Nat.reduceAdd, Nat.reduceMul, Nat.reduceSub, Int.reduceToNat, Int.reduceAdd, Int.reduceSub, Int.reduceMul, Int.reduceNeg]; repeat ((first | refine vIf_t ?_ | refine vIf_f ?_); simp (maxSteps := 2000000) (disch := omega) only [go_sem, Nat.reduceEqDiff, Nat.reduceAdd, Nat.reduceMul, Nat.reduceSub, Int.reduceToNat, Int.reduceAdd, Int.reduceSub, Int.reduceMul, Int.reduceNeg])))
    rw [dwB, hall, hI2, h0]; rfl
end Go.Proofs.Ytkgfpephkinocaa

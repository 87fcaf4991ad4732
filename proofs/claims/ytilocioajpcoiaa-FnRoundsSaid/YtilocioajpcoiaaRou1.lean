/- routes: byMetre, routeMetres, RouteOf -/
import Derived.Test.YtilocioajpcoiaaMet1
import Derived.Test.YtilocioajpcoiaaRouP
set_option linter.unusedVariables false
set_option linter.unusedSimpArgs false
namespace Go.Proofs.Ytilocioajpcoiaa
open Go.AG Go.Lib

attribute [local go_sem] beq_self_eq_true bne_self_eq_false Bool.not_true Bool.not_false
theorem wrS (x : Int) (h : -1000000000000000000 ≤ x ∧ x ≤ 1000000000000000000) : IntKind.wrap .i64 x = x := by simp [IntKind.wrap, IntKind.bits, IntKind.signed]; omega
@[local go_sem] theorem endM_nil (ds : List Df) (x : Int) : endM ds x [] = x := _root_.id rfl
@[local go_sem] theorem rcost_nil (ds : List Df) (x : Int) : rcost ds x [] = 0 := _root_.id rfl
theorem cloneI1_ok (xs : List Int) (hl : xs.length ≤ 10000000) : ACalls Try.prog 72 [.sl xs.length (ints xs)] [] (fun r o => r = .ref 0 0 xs.length ∧ o = [oI xs]) := by
  refine ACalls.of_vc Try.func72 rfl (by decide) 6 rfl [.tmp 2] rfl (by simp) ?_
  (repeat (first | simp (maxSteps := 2000000) (disch := omega) only [go_sem, ↓reduceIte, Nat.reduceEqDiff, Nat.reduceAdd, Nat.reduceMul, Nat.reduceSub, Int.reduceToNat, Int.reduceAdd, Int.reduceSub, Int.reduceMul, Int.reduceNeg] | with_reducible refine vIf_t ?_ | with_reducible refine vIf_f ?_))
  (refine retK_of ?_; (repeat (first | simp (maxSteps := 2000000) (disch := omega) only [go_sem, ↓reduceIte, Nat.reduceEqDiff, Nat.reduceAdd, Nat.reduceMul, Nat.reduceSub, Int.reduceToNat, Int.reduceAdd, Int.reduceSub, Int.reduceMul, Int.reduceNeg] | with_reducible refine vIf_t ?_ | with_reducible refine vIf_f ?_)))
theorem byMetre_e (g : Int) (ds : List Df) (xs : List Int) (hx : ∀ x ∈ xs, 0 ≤ x ∧ x < ds.length) (h20 : xs.length ≤ 20) : ACalls Try.prog 71 [.sl ds.length (cDf ds), .sl xs.length (ints xs), I g] [] (fun r o => ∃ ys, r = .ref 0 0 ys.length ∧ o = [oI ys] ∧ MtO g ds xs ys) := by
  have h1 := cloneI1_ok xs (by omega)
  have h2 := sortM_ok g ds xs hx h20
  simp only [mtCaps, mtRest] at h2
  refine ACalls.of_vc Try.func71 rfl (by decide) 15 rfl [.tmp 6] rfl (by simp) ?_
  (repeat (first | simp (maxSteps := 2000000) (disch := omega) only [go_sem, ↓reduceIte, Nat.reduceEqDiff, Nat.reduceAdd, Nat.reduceMul, Nat.reduceSub, Int.reduceToNat, Int.reduceAdd, Int.reduceSub, Int.reduceMul, Int.reduceNeg] | with_reducible refine vIf_t ?_ | with_reducible refine vIf_f ?_))
  (refine vCallX_of ?_; (repeat (first | simp (maxSteps := 2000000) (disch := omega) only [go_sem, ↓reduceIte, Nat.reduceEqDiff, Nat.reduceAdd, Nat.reduceMul, Nat.reduceSub, Int.reduceToNat, Int.reduceAdd, Int.reduceSub, Int.reduceMul, Int.reduceNeg] | with_reducible refine vIf_t ?_ | with_reducible refine vIf_f ?_)); refine vCall_eq (h1) (by simp (disch := omega) only [go_sem, Nat.reduceAdd]) rfl (by first | exact Or.inl rfl | exact Or.inr ⟨rfl, rfl⟩ | (apply Or.inr; simp only [go_sem])) ?_; (repeat (first | simp (maxSteps := 2000000) (disch := omega) only [go_sem, ↓reduceIte, Nat.reduceEqDiff, Nat.reduceAdd, Nat.reduceMul, Nat.reduceSub, Int.reduceToNat, Int.reduceAdd, Int.reduceSub, Int.reduceMul, Int.reduceNeg] | with_reducible refine vIf_t ?_ | with_reducible refine vIf_f ?_)))
  (refine vCallX_io [2, 1, 0, 3] ?_; (repeat (first | simp (maxSteps := 2000000) (disch := omega) only [go_sem, ↓reduceIte, Nat.reduceEqDiff, Nat.reduceAdd, Nat.reduceMul, Nat.reduceSub, Int.reduceToNat, Int.reduceAdd, Int.reduceSub, Int.reduceMul, Int.reduceNeg] | with_reducible refine vIf_t ?_ | with_reducible refine vIf_f ?_)); refine vCallIO_ex (h2) (by simp (disch := omega) only [go_sem, Nat.reduceAdd, Nat.reduceEqDiff]) (by simp (disch := omega) only [go_sem, Nat.reduceAdd, Nat.reduceEqDiff]) (by first | rfl | (simp (disch := omega) only [go_sem, Nat.reduceAdd, Nat.reduceEqDiff])) (by first | rfl | (simp (disch := omega) only [go_sem, Nat.reduceAdd, Nat.reduceEqDiff])) (by first | rfl | (simp (disch := omega) only [go_sem, Nat.reduceAdd, Nat.reduceEqDiff])) ?_); rintro _ _ ⟨ys, rfl, rfl, hM⟩; (refine ⟨by first | (simp (disch := omega) only [go_sem, Nat.reduceAdd, Nat.reduceEqDiff]) | trivial, ?_⟩; (repeat (first | simp (maxSteps := 2000000) (disch := omega) only [go_sem, ↓reduceIte, Nat.reduceEqDiff, Nat.reduceAdd, Nat.reduceMul, Nat.reduceSub, Int.reduceToNat, Int.reduceAdd, Int.reduceSub, Int.reduceMul, Int.reduceNeg] | with_reducible refine vIf_t ?_ | with_reducible refine vIf_f ?_)))
  (refine retK_of ?_; (repeat (first | simp (maxSteps := 2000000) (disch := omega) only [go_sem, ↓reduceIte, Nat.reduceEqDiff, Nat.reduceAdd, Nat.reduceMul, Nat.reduceSub, Int.reduceToNat, Int.reduceAdd, Int.reduceSub, Int.reduceMul, Int.reduceNeg] | with_reducible refine vIf_t ?_ | with_reducible refine vIf_f ?_)))
  exact ⟨ys, by rw [hM.p.length_eq], rfl, hM⟩
theorem absR_ok (a : Int) (ha : -1000000000000000000 ≤ a ∧ a ≤ 1000000000000000000) : ACalls Try.prog 93 [I a] [] (fun r o => r = I (ab a) ∧ o = []) := by
  refine ACalls.of_vc Try.func93 rfl (by decide) 7 rfl [.tmp 2] rfl (by simp) ?_
  (repeat (first | simp (maxSteps := 2000000) (disch := omega) only [go_sem, ↓reduceIte, Nat.reduceEqDiff, Nat.reduceAdd, Nat.reduceMul, Nat.reduceSub, Int.reduceToNat, Int.reduceAdd, Int.reduceSub, Int.reduceMul, Int.reduceNeg] | with_reducible refine vIf_t ?_ | with_reducible refine vIf_f ?_))
  (refine retK_of ?_; (repeat (first | simp (maxSteps := 2000000) (disch := omega) only [go_sem, ↓reduceIte, Nat.reduceEqDiff, Nat.reduceAdd, Nat.reduceMul, Nat.reduceSub, Int.reduceToNat, Int.reduceAdd, Int.reduceSub, Int.reduceMul, Int.reduceNeg] | with_reducible refine vIf_t ?_ | with_reducible refine vIf_f ?_)))
  congr 2
  unfold ab
  split <;> split <;> omega
theorem rcost_bd (ds : List Df) (X : DfX ds) (x : Int) (hx : 0 ≤ x ∧ x ≤ 300000) (p : List Int) (hp : ∀ i ∈ p, 0 ≤ i ∧ i < ds.length) : 0 ≤ rcost ds x p ∧ rcost ds x p ≤ 300000 * p.length ∧ 0 ≤ endM ds x p ∧ endM ds x p ≤ 300000 := by
  induction p generalizing x with
  | nil => simp [rcost, endM]; omega
  | cons i r ih =>
    have hi := hp i (List.mem_cons_self ..)
    have hm := (X.e i.toNat (by omega)).m
    obtain ⟨h1, h2, h3⟩ := ih (mt ds i) hm (fun j hj => hp j (List.mem_cons_of_mem _ hj))
    have : 0 ≤ ab (mt ds i - x) ∧ ab (mt ds i - x) ≤ 300000 := by unfold mt ab at *; split <;> omega
    simp only [rcost, endM, List.length_cons]
    exact ⟨by omega, by omega, h3⟩
theorem routeM_ok (ds : List Df) (X : DfX ds) (x : Int) (hx : 0 ≤ x ∧ x ≤ 300000) (xs : List Int) (hp : ∀ i ∈ xs, 0 ≤ i ∧ i < ds.length) (hl : xs.length ≤ 1000) : ACalls Try.prog 73 [.sl ds.length (cDf ds), I x, .sl xs.length (ints xs)] [] (fun r o => r = I (rcost ds x xs) ∧ o = []) := by
  refine ACalls.of_vc Try.func73 rfl (by decide) 33 rfl [.tmp 6] rfl (by simp) ?_
  (repeat (first | simp (maxSteps := 2000000) (disch := omega) only [go_sem, ↓reduceIte, Nat.reduceEqDiff, Nat.reduceAdd, Nat.reduceMul, Nat.reduceSub, Int.reduceToNat, Int.reduceAdd, Int.reduceSub, Int.reduceMul, Int.reduceNeg] | with_reducible refine vIf_t ?_ | with_reducible refine vIf_f ?_))
  refine vcLoop_invF (fun k : Nat => k ≤ xs.length) (fun k => ⟨33, 0, [(12, I k), (0, .sl ds.length (cDf ds)), (1, I (endM ds x (xs.take k))), (7, I (rcost ds x (xs.take k))), (10, .sl xs.length (ints xs)), (11, I xs.length)], []⟩) (fun k => xs.length - k) 0 (by omega) (by (first | (refine leF_s ?_; ((repeat (first | simp (maxSteps := 2000000) (disch := omega) only [go_sem, ↓reduceIte, Nat.reduceEqDiff, Nat.reduceAdd, Nat.reduceMul, Nat.reduceSub, Int.reduceToNat, Int.reduceAdd, Int.reduceSub, Int.reduceMul, Int.reduceNeg] | with_reducible refine vIf_t ?_ | with_reducible refine vIf_f ?_)); all_goals (try simp); all_goals (try omega)); done) | (refine leF_p ?_; ((repeat (first | simp (maxSteps := 2000000) (disch := omega) only [go_sem, ↓reduceIte, Nat.reduceEqDiff, Nat.reduceAdd, Nat.reduceMul, Nat.reduceSub, Int.reduceToNat, Int.reduceAdd, Int.reduceSub, Int.reduceMul, Int.reduceNeg] | with_reducible refine vIf_t ?_ | with_reducible refine vIf_f ?_)); all_goals (try simp); all_goals (try omega)); done))) ?_
  intro k hk
  (repeat (first | simp (maxSteps := 2000000) (disch := omega) only [go_sem, ↓reduceIte, Nat.reduceEqDiff, Nat.reduceAdd, Nat.reduceMul, Nat.reduceSub, Int.reduceToNat, Int.reduceAdd, Int.reduceSub, Int.reduceMul, Int.reduceNeg] | with_reducible refine vIf_t ?_ | with_reducible refine vIf_f ?_))
  refine vIf_dec (fun h => ?_) (fun h => ?_)
  · have hkl : k < xs.length := by omega
    have hi := hp _ (gi_mem xs k hkl)
    have hb := rcost_bd ds X x hx (xs.take k) (fun i hi => hp i (List.mem_of_mem_take hi))
    have hb1 := rcost_bd ds X x hx (xs.take (k + 1)) (fun i hi => hp i (List.mem_of_mem_take hi))
    have ht := take_succ_gi xs k hkl
    have e1 := rcost_app ds x (xs.take k) [gi xs k]
    have e2 := endM_app ds x (xs.take k) [gi xs k]
    rw [← ht] at e1 e2
    simp only [rcost, endM] at e1 e2
    have hm := (X.e (gi xs k).toNat (by omega)).m
    have em : mt ds (gi xs k) = (gDf ds (gi xs k).toNat).met := rfl
    rw [em] at e1 e2
    have ha := absR_ok ((gDf ds (gi xs k).toNat).met - endM ds x (xs.take k)) ⟨by omega, by omega⟩
    have e3 := wrS ((gDf ds (gi xs k).toNat).met - endM ds x (xs.take k)) ⟨by omega, by omega⟩
    have hlt : (xs.take (k + 1)).length ≤ 1000 := by rw [List.length_take]; omega
    have e4 : IntKind.wrap .i64 (rcost ds x (xs.take k) + ab ((gDf ds (gi xs k).toNat).met - endM ds x (xs.take k))) = rcost ds x (xs.take (k + 1)) := by
      rw [e1, Int.add_zero]
      exact wrS _ ⟨by omega, by omega⟩
    (repeat (first | simp (maxSteps := 2000000) (disch := omega) only [go_sem, ↓reduceIte, Nat.reduceEqDiff, Nat.reduceAdd, Nat.reduceMul, Nat.reduceSub, Int.reduceToNat, Int.reduceAdd, Int.reduceSub, Int.reduceMul, Int.reduceNeg, e3] | with_reducible refine vIf_t ?_ | with_reducible refine vIf_f ?_))
    (refine vCallX_of ?_; (repeat (first | simp (maxSteps := 2000000) (disch := omega) only [go_sem, ↓reduceIte, Nat.reduceEqDiff, Nat.reduceAdd, Nat.reduceMul, Nat.reduceSub, Int.reduceToNat, Int.reduceAdd, Int.reduceSub, Int.reduceMul, Int.reduceNeg] | with_reducible refine vIf_t ?_ | with_reducible refine vIf_f ?_)); refine vCall_eq (ha) (by simp (disch := omega) only [go_sem, Nat.reduceAdd]) rfl (by first | exact Or.inl rfl | exact Or.inr ⟨rfl, rfl⟩ | (apply Or.inr; simp only [go_sem])) ?_; (repeat (first | simp (maxSteps := 2000000) (disch := omega) only [go_sem, ↓reduceIte, Nat.reduceEqDiff, Nat.reduceAdd, Nat.reduceMul, Nat.reduceSub, Int.reduceToNat, Int.reduceAdd, Int.reduceSub, Int.reduceMul, Int.reduceNeg] | with_reducible refine vIf_t ?_ | with_reducible refine vIf_f ?_)))
    have e5 : rcost ds x (xs.take k) + ab ((gDf ds (gi xs k).toNat).met - endM ds x (xs.take k)) = rcost ds x (xs.take (k + 1)) := by rw [e1, Int.add_zero]
    (repeat (first | simp (maxSteps := 2000000) (disch := omega) only [go_sem, ↓reduceIte, Nat.reduceEqDiff, Nat.reduceAdd, Nat.reduceMul, Nat.reduceSub, Int.reduceToNat, Int.reduceAdd, Int.reduceSub, Int.reduceMul, Int.reduceNeg, e4, e5] | with_reducible refine vIf_t ?_ | with_reducible refine vIf_f ?_))
    (repeat (first | simp (maxSteps := 2000000) (disch := omega) only [go_sem, ↓reduceIte, Nat.reduceEqDiff, Nat.reduceAdd, Nat.reduceMul, Nat.reduceSub, Int.reduceToNat, Int.reduceAdd, Int.reduceSub, Int.reduceMul, Int.reduceNeg, ← e2] | with_reducible refine vIf_t ?_ | with_reducible refine vIf_f ?_))
    refine againF (k + 1) ?_ ?_ (by (first | (refine leF_s ?_; ((repeat (first | simp (maxSteps := 2000000) (disch := omega) only [go_sem, ↓reduceIte, Nat.reduceEqDiff, Nat.reduceAdd, Nat.reduceMul, Nat.reduceSub, Int.reduceToNat, Int.reduceAdd, Int.reduceSub, Int.reduceMul, Int.reduceNeg] | with_reducible refine vIf_t ?_ | with_reducible refine vIf_f ?_)); all_goals (try simp); all_goals (try omega)); done) | (refine leF_p ?_; ((repeat (first | simp (maxSteps := 2000000) (disch := omega) only [go_sem, ↓reduceIte, Nat.reduceEqDiff, Nat.reduceAdd, Nat.reduceMul, Nat.reduceSub, Int.reduceToNat, Int.reduceAdd, Int.reduceSub, Int.reduceMul, Int.reduceNeg] | with_reducible refine vIf_t ?_ | with_reducible refine vIf_f ?_)); all_goals (try simp); all_goals (try omega)); done)))
    · omega
    · omega
  · (repeat (first | simp (maxSteps := 2000000) (disch := omega) only [go_sem, ↓reduceIte, Nat.reduceEqDiff, Nat.reduceAdd, Nat.reduceMul, Nat.reduceSub, Int.reduceToNat, Int.reduceAdd, Int.reduceSub, Int.reduceMul, Int.reduceNeg] | with_reducible refine vIf_t ?_ | with_reducible refine vIf_f ?_))
    (refine retK_of ?_; (repeat (first | simp (maxSteps := 2000000) (disch := omega) only [go_sem, ↓reduceIte, Nat.reduceEqDiff, Nat.reduceAdd, Nat.reduceMul, Nat.reduceSub, Int.reduceToNat, Int.reduceAdd, Int.reduceSub, Int.reduceMul, Int.reduceNeg] | with_reducible refine vIf_t ?_ | with_reducible refine vIf_f ?_)))
    rw [List.take_of_length_le (by omega)]
/-- the open ones, below and above -/
def opL (ds : List Df) (day : Int) : List Int := ixs ds.length fun i => opD day (gDf ds i)
def dnL (ds : List Df) (x : Int) (L : List Int) : List Int := L.filter fun i => decide (mt ds i < x)
def upL (ds : List Df) (x : Int) (L : List Int) : List Int := L.filter fun i => !decide (mt ds i < x)
theorem dn_up (ds : List Df) (x : Int) (L : List Int) : (dnL ds x L ++ upL ds x L).Perm L := List.filter_append_perm _ _
@[local go_sem] theorem dnL_nil (ds : List Df) (x : Int) : dnL ds x [] = [] := _root_.id rfl
@[local go_sem] theorem upL_nil (ds : List Df) (x : Int) : upL ds x [] = [] := _root_.id rfl
theorem dnL_len (ds : List Df) (x : Int) (L : List Int) : (dnL ds x L).length ≤ L.length := List.length_filter_le _ _
theorem upL_len (ds : List Df) (x : Int) (L : List Int) : (upL ds x L).length ≤ L.length := List.length_filter_le _ _
theorem dnL_snoc (ds : List Df) (x : Int) (L : List Int) (i : Int) : dnL ds x (L ++ [i]) = dnL ds x L ++ if mt ds i < x then [i] else [] := by
  unfold dnL; rw [List.filter_append]; congr 1
  by_cases h : mt ds i < x <;> simp [h]
theorem upL_snoc (ds : List Df) (x : Int) (L : List Int) (i : Int) : upL ds x (L ++ [i]) = upL ds x L ++ if mt ds i < x then [] else [i] := by
  unfold upL; rw [List.filter_append]; congr 1
  by_cases h : mt ds i < x <;> simp [h]
theorem MtO.up {ds : List Df} {xs ys : List Int} (h : MtO 1 ds xs ys) (X : DfX ds) (hx : ∀ x ∈ xs, 0 ≤ x ∧ x < ds.length) : ys.Pairwise fun a b => mt ds a ≤ mt ds b := by
  rw [List.pairwise_iff_getElem]
  intro i j hi hj hij
  have := h.s i j hij hj
  have h1 := hx _ (h.p.subset (List.getElem_mem hi))
  have h2 := hx _ (h.p.subset (List.getElem_mem hj))
  have e1 : gi ys i = ys[i] := by simp [gi, hi]
  have e2 : gi ys j = ys[j] := by simp [gi, hj]
  rw [e1, e2] at this
  have m1 := (X.e (ys[i]).toNat (by omega)).m
  have m2 := (X.e (ys[j]).toNat (by omega)).m
  unfold mt
  simp only [mtW, RowKit.wrap64] at this
  omega
theorem MtO.down {ds : List Df} {xs ys : List Int} (h : MtO (-1) ds xs ys) (X : DfX ds) (hx : ∀ x ∈ xs, 0 ≤ x ∧ x < ds.length) : ys.Pairwise fun a b => mt ds b ≤ mt ds a := by
  rw [List.pairwise_iff_getElem]
  intro i j hi hj hij
  have := h.s i j hij hj
  have h1 := hx _ (h.p.subset (List.getElem_mem hi))
  have h2 := hx _ (h.p.subset (List.getElem_mem hj))
  have e1 : gi ys i = ys[i] := by simp [gi, hi]
  have e2 : gi ys j = ys[j] := by simp [gi, hj]
  rw [e1, e2] at this
  have m1 := (X.e (ys[i]).toNat (by omega)).m
  have m2 := (X.e (ys[j]).toNat (by omega)).m
  unfold mt
  simp only [mtW, RowKit.wrap64] at this
  omega
theorem opL_mem (ds : List Df) (day : Int) (i : Int) (h : i ∈ opL ds day) : 0 ≤ i ∧ i < ds.length := by
  simp only [opL, ixs, List.mem_map, List.mem_filter, List.mem_range] at h
  obtain ⟨j, ⟨h1, _⟩, rfl⟩ := h
  omega
theorem opL_len (ds : List Df) (day : Int) : (opL ds day).length ≤ ds.length := ixs_len _ _
set_option maxHeartbeats 4000000 in
theorem routeOf_e (ds : List Df) (X : DfX ds) (n : ds.length ≤ 10) (day : Int) (hd : 1 ≤ day ∧ day ≤ 100000) (x : Int) (hx : 0 ≤ x ∧ x ≤ 300000) : ACalls Try.prog 32 [.sl ds.length (cDf ds), I day, I x] []
    (fun r o => ∃ R, r = .tup [.ref 0 0 R.length, I 0] ∧ o = [oI R] ∧ R.Perm (opL ds day) ∧ ∀ q, (∀ i ∈ opL ds day, i ∈ q) → rcost ds x R ≤ rcost ds x q) := by
  have h1 := dfCode_ok ds X day hd
  have h2 := openDs_ok ds day X.n
  have h3 := isMetre_ok x
  rw [decide_eq_true hx] at h3
  have hm := opL_mem ds day
  have hl := opL_len ds day
  rw [show (ixs ds.length fun i => opD day (gDf ds i)) = opL ds day from rfl] at h2
  generalize opL ds day = L at *
  refine ACalls.of_vc Try.func32 rfl (by decide) 77 rfl [.tmp 6, .tmp 7] rfl (by simp) ?_
  (repeat (first | simp (maxSteps := 2000000) (disch := omega) only [go_sem, ↓reduceIte, Nat.reduceEqDiff, Nat.reduceAdd, Nat.reduceMul, Nat.reduceSub, Int.reduceToNat, Int.reduceAdd, Int.reduceSub, Int.reduceMul, Int.reduceNeg] | with_reducible refine vIf_t ?_ | with_reducible refine vIf_f ?_))
  (refine vCallX_of ?_; (repeat (first | simp (maxSteps := 2000000) (disch := omega) only [go_sem, ↓reduceIte, Nat.reduceEqDiff, Nat.reduceAdd, Nat.reduceMul, Nat.reduceSub, Int.reduceToNat, Int.reduceAdd, Int.reduceSub, Int.reduceMul, Int.reduceNeg] | with_reducible refine vIf_t ?_ | with_reducible refine vIf_f ?_)); refine vCall_eq (h1) (by simp (disch := omega) only [go_sem, Nat.reduceAdd]) rfl (by first | exact Or.inl rfl | exact Or.inr ⟨rfl, rfl⟩ | (apply Or.inr; simp only [go_sem])) ?_; (repeat (first | simp (maxSteps := 2000000) (disch := omega) only [go_sem, ↓reduceIte, Nat.reduceEqDiff, Nat.reduceAdd, Nat.reduceMul, Nat.reduceSub, Int.reduceToNat, Int.reduceAdd, Int.reduceSub, Int.reduceMul, Int.reduceNeg] | with_reducible refine vIf_t ?_ | with_reducible refine vIf_f ?_)))
  (refine vCallX_of ?_; (repeat (first | simp (maxSteps := 2000000) (disch := omega) only [go_sem, ↓reduceIte, Nat.reduceEqDiff, Nat.reduceAdd, Nat.reduceMul, Nat.reduceSub, Int.reduceToNat, Int.reduceAdd, Int.reduceSub, Int.reduceMul, Int.reduceNeg] | with_reducible refine vIf_t ?_ | with_reducible refine vIf_f ?_)); refine vCall_eq (h3) (by simp (disch := omega) only [go_sem, Nat.reduceAdd]) rfl (by first | exact Or.inl rfl | exact Or.inr ⟨rfl, rfl⟩ | (apply Or.inr; simp only [go_sem])) ?_; (repeat (first | simp (maxSteps := 2000000) (disch := omega) only [go_sem, ↓reduceIte, Nat.reduceEqDiff, Nat.reduceAdd, Nat.reduceMul, Nat.reduceSub, Int.reduceToNat, Int.reduceAdd, Int.reduceSub, Int.reduceMul, Int.reduceNeg] | with_reducible refine vIf_t ?_ | with_reducible refine vIf_f ?_)))
  (refine vCallX_of ?_; (repeat (first | simp (maxSteps := 2000000) (disch := omega) only [go_sem, ↓reduceIte, Nat.reduceEqDiff, Nat.reduceAdd, Nat.reduceMul, Nat.reduceSub, Int.reduceToNat, Int.reduceAdd, Int.reduceSub, Int.reduceMul, Int.reduceNeg] | with_reducible refine vIf_t ?_ | with_reducible refine vIf_f ?_)); refine vCall_eq (h2) (by simp (disch := omega) only [go_sem, Nat.reduceAdd]) rfl (by first | exact Or.inl rfl | exact Or.inr ⟨rfl, rfl⟩ | (apply Or.inr; simp only [go_sem])) ?_; (repeat (first | simp (maxSteps := 2000000) (disch := omega) only [go_sem, ↓reduceIte, Nat.reduceEqDiff, Nat.reduceAdd, Nat.reduceMul, Nat.reduceSub, Int.reduceToNat, Int.reduceAdd, Int.reduceSub, Int.reduceMul, Int.reduceNeg] | with_reducible refine vIf_t ?_ | with_reducible refine vIf_f ?_)))
  refine vcLoop_invF (fun k : Nat => k ≤ L.length) (fun k => ⟨77, 0, [(32, I k), (9, .ref 0 0 (dnL ds x (L.take k)).length), (10, .ref 1 0 (upL ds x (L.take k)).length), (2, I x), (0, .sl ds.length (cDf ds)), (30, .ref 2 0 L.length), (31, I L.length)], [oI (dnL ds x (L.take k)), oI (upL ds x (L.take k)), oI L]⟩) (fun k => L.length - k) 0 (by omega) (by (first | (refine leF_s ?_; ((repeat (first | simp (maxSteps := 2000000) (disch := omega) only [go_sem, ↓reduceIte, Nat.reduceEqDiff, Nat.reduceAdd, Nat.reduceMul, Nat.reduceSub, Int.reduceToNat, Int.reduceAdd, Int.reduceSub, Int.reduceMul, Int.reduceNeg] | with_reducible refine vIf_t ?_ | with_reducible refine vIf_f ?_)); all_goals (try simp); all_goals (try omega)); done) | (refine leF_p ?_; ((repeat (first | simp (maxSteps := 2000000) (disch := omega) only [go_sem, ↓reduceIte, Nat.reduceEqDiff, Nat.reduceAdd, Nat.reduceMul, Nat.reduceSub, Int.reduceToNat, Int.reduceAdd, Int.reduceSub, Int.reduceMul, Int.reduceNeg] | with_reducible refine vIf_t ?_ | with_reducible refine vIf_f ?_)); all_goals (try simp); all_goals (try omega)); done))) ?_
  intro k hk
  (repeat (first | simp (maxSteps := 2000000) (disch := omega) only [go_sem, ↓reduceIte, Nat.reduceEqDiff, Nat.reduceAdd, Nat.reduceMul, Nat.reduceSub, Int.reduceToNat, Int.reduceAdd, Int.reduceSub, Int.reduceMul, Int.reduceNeg] | with_reducible refine vIf_t ?_ | with_reducible refine vIf_f ?_))
  refine vIf_dec (fun h => ?_) (fun h => ?_)
  · have hkl : k < L.length := by omega
    have hi := hm _ (gi_mem L k hkl)
    have ht := take_succ_gi L k hkl
    have hdn := dnL_snoc ds x (L.take k) (gi L k)
    have hup := upL_snoc ds x (L.take k) (gi L k)
    rw [← ht] at hdn hup
    have em : mt ds (gi L k) = (gDf ds (gi L k).toNat).met := rfl
    rw [em] at hdn hup
    have b0 : (L.take k).length ≤ k := by rw [List.length_take]; omega
    have b1 := dnL_len ds x (L.take k)
    have b2 := upL_len ds x (L.take k)
    (repeat (first | simp (maxSteps := 2000000) (disch := omega) only [go_sem, ↓reduceIte, Nat.reduceEqDiff, Nat.reduceAdd, Nat.reduceMul, Nat.reduceSub, Int.reduceToNat, Int.reduceAdd, Int.reduceSub, Int.reduceMul, Int.reduceNeg] | with_reducible refine vIf_t ?_ | with_reducible refine vIf_f ?_))
    refine vIf_dec (fun h5 => ?_) (fun h5 => ?_)
    · rw [if_pos h5] at hdn
      rw [if_pos h5, List.append_nil] at hup
      have b3 : (dnL ds x (L.take k)).length + 1 = (dnL ds x (L.take (k + 1))).length := by rw [hdn]; simp
      (repeat (first | simp (maxSteps := 2000000) (disch := omega) only [go_sem, ↓reduceIte, Nat.reduceEqDiff, Nat.reduceAdd, Nat.reduceMul, Nat.reduceSub, Int.reduceToNat, Int.reduceAdd, Int.reduceSub, Int.reduceMul, Int.reduceNeg, b3, ← hdn] | with_reducible refine vIf_t ?_ | with_reducible refine vIf_f ?_))
      refine againF (k + 1) (by omega) (by omega) ?_
      rw [hup]
      (first | (refine leF_s ?_; ((repeat (first | simp (maxSteps := 2000000) (disch := omega) only [go_sem, ↓reduceIte, Nat.reduceEqDiff, Nat.reduceAdd, Nat.reduceMul, Nat.reduceSub, Int.reduceToNat, Int.reduceAdd, Int.reduceSub, Int.reduceMul, Int.reduceNeg] | with_reducible refine vIf_t ?_ | with_reducible refine vIf_f ?_)); all_goals (try simp); all_goals (try omega)); done) | (refine leF_p ?_; ((repeat (first | simp (maxSteps := 2000000) (disch := omega) only [go_sem, ↓reduceIte, Nat.reduceEqDiff, Nat.reduceAdd, Nat.reduceMul, Nat.reduceSub, Int.reduceToNat, Int.reduceAdd, Int.reduceSub, Int.reduceMul, Int.reduceNeg] | with_reducible refine vIf_t ?_ | with_reducible refine vIf_f ?_)); all_goals (try simp); all_goals (try omega)); done))
    · rw [if_neg h5, List.append_nil] at hdn
      rw [if_neg h5] at hup
      have b3 : (upL ds x (L.take k)).length + 1 = (upL ds x (L.take (k + 1))).length := by rw [hup]; simp
      (repeat (first | simp (maxSteps := 2000000) (disch := omega) only [go_sem, ↓reduceIte, Nat.reduceEqDiff, Nat.reduceAdd, Nat.reduceMul, Nat.reduceSub, Int.reduceToNat, Int.reduceAdd, Int.reduceSub, Int.reduceMul, Int.reduceNeg, b3, ← hup] | with_reducible refine vIf_t ?_ | with_reducible refine vIf_f ?_))
      refine againF (k + 1) (by omega) (by omega) ?_
      rw [hdn]
      (first | (refine leF_s ?_; ((repeat (first | simp (maxSteps := 2000000) (disch := omega) only [go_sem, ↓reduceIte, Nat.reduceEqDiff, Nat.reduceAdd, Nat.reduceMul, Nat.reduceSub, Int.reduceToNat, Int.reduceAdd, Int.reduceSub, Int.reduceMul, Int.reduceNeg] | with_reducible refine vIf_t ?_ | with_reducible refine vIf_f ?_)); all_goals (try simp); all_goals (try omega)); done) | (refine leF_p ?_; ((repeat (first | simp (maxSteps := 2000000) (disch := omega) only [go_sem, ↓reduceIte, Nat.reduceEqDiff, Nat.reduceAdd, Nat.reduceMul, Nat.reduceSub, Int.reduceToNat, Int.reduceAdd, Int.reduceSub, Int.reduceMul, Int.reduceNeg] | with_reducible refine vIf_t ?_ | with_reducible refine vIf_f ?_)); all_goals (try simp); all_goals (try omega)); done))
  · (repeat (first | simp (maxSteps := 2000000) (disch := omega) only [go_sem, ↓reduceIte, Nat.reduceEqDiff, Nat.reduceAdd, Nat.reduceMul, Nat.reduceSub, Int.reduceToNat, Int.reduceAdd, Int.reduceSub, Int.reduceMul, Int.reduceNeg] | with_reducible refine vIf_t ?_ | with_reducible refine vIf_f ?_))
    rw [List.take_of_length_le (by omega)]
    clear h2
    have hdl := dnL_len ds x L
    have hul := upL_len ds x L
    have hdm : ∀ y ∈ dnL ds x L, (0 ≤ y ∧ y < ds.length) ∧ mt ds y < x := fun y hy => by
      rw [dnL, List.mem_filter] at hy
      exact ⟨hm y hy.1, of_decide_eq_true hy.2⟩
    have hum : ∀ y ∈ upL ds x L, (0 ≤ y ∧ y < ds.length) ∧ x ≤ mt ds y := fun y hy => by
      rw [upL, List.mem_filter] at hy
      refine ⟨hm y hy.1, ?_⟩
      have := hy.2
      simp at this
      omega
    have hperm := dn_up ds x L
    have p1 := byMetre_e (-1) ds (dnL ds x L) (fun y hy => (hdm y hy).1) (by omega)
    have p2 := byMetre_e 1 ds (upL ds x L) (fun y hy => (hum y hy).1) (by omega)
    generalize dnL ds x L = dn at *
    generalize upL ds x L = up at *
    (refine vCallX_of ?_; (repeat (first | simp (maxSteps := 2000000) (disch := omega) only [go_sem, ↓reduceIte, Nat.reduceEqDiff, Nat.reduceAdd, Nat.reduceMul, Nat.reduceSub, Int.reduceToNat, Int.reduceAdd, Int.reduceSub, Int.reduceMul, Int.reduceNeg] | with_reducible refine vIf_t ?_ | with_reducible refine vIf_f ?_)); refine vCall_ex (p1) (by simp (disch := omega) only [go_sem, Nat.reduceAdd]) rfl ?_); rintro _ _ ⟨ys, rfl, rfl, M1⟩; (refine ⟨(by first | exact Or.inl rfl | exact Or.inr ⟨rfl, rfl⟩ | (apply Or.inr; simp only [go_sem])), ?_⟩; (repeat (first | simp (maxSteps := 2000000) (disch := omega) only [go_sem, ↓reduceIte, Nat.reduceEqDiff, Nat.reduceAdd, Nat.reduceMul, Nat.reduceSub, Int.reduceToNat, Int.reduceAdd, Int.reduceSub, Int.reduceMul, Int.reduceNeg] | with_reducible refine vIf_t ?_ | with_reducible refine vIf_f ?_)))
    (refine vCallX_of ?_; (repeat (first | simp (maxSteps := 2000000) (disch := omega) only [go_sem, ↓reduceIte, Nat.reduceEqDiff, Nat.reduceAdd, Nat.reduceMul, Nat.reduceSub, Int.reduceToNat, Int.reduceAdd, Int.reduceSub, Int.reduceMul, Int.reduceNeg] | with_reducible refine vIf_t ?_ | with_reducible refine vIf_f ?_)); refine vCall_ex (p2) (by simp (disch := omega) only [go_sem, Nat.reduceAdd]) rfl ?_); rintro _ _ ⟨zs, rfl, rfl, M2⟩; (refine ⟨(by first | exact Or.inl rfl | exact Or.inr ⟨rfl, rfl⟩ | (apply Or.inr; simp only [go_sem])), ?_⟩; (repeat (first | simp (maxSteps := 2000000) (disch := omega) only [go_sem, ↓reduceIte, Nat.reduceEqDiff, Nat.reduceAdd, Nat.reduceMul, Nat.reduceSub, Int.reduceToNat, Int.reduceAdd, Int.reduceSub, Int.reduceMul, Int.reduceNeg] | with_reducible refine vIf_t ?_ | with_reducible refine vIf_f ?_)))
    have q1 := M1.down X (fun y hy => (hdm y hy).1)
    have q2 := M2.up X (fun y hy => (hum y hy).1)
    have l1 := M1.p.length_eq
    have l2 := M2.p.length_eq
    have c1 := cloneI1_ok ys (by omega)
    have c2 := cloneI1_ok zs (by omega)
    have hmem : ∀ i ∈ ys ++ zs, 0 ≤ i ∧ i < ds.length := fun i hi => by
      rcases List.mem_append.1 hi with h | h
      · exact (hdm i (M1.p.subset h)).1
      · exact (hum i (M2.p.subset h)).1
    have r1 := routeM_ok ds X x hx (ys ++ zs) hmem (by simp; omega)
    have r2 := routeM_ok ds X x hx (zs ++ ys) (fun i hi => hmem i (by rw [List.mem_append] at hi ⊢; exact hi.symm)) (by simp; omega)
    (refine vCallX_of ?_; (repeat (first | simp (maxSteps := 2000000) (disch := omega) only [go_sem, ↓reduceIte, Nat.reduceEqDiff, Nat.reduceAdd, Nat.reduceMul, Nat.reduceSub, Int.reduceToNat, Int.reduceAdd, Int.reduceSub, Int.reduceMul, Int.reduceNeg] | with_reducible refine vIf_t ?_ | with_reducible refine vIf_f ?_)); refine vCall_eq (c1) (by simp (disch := omega) only [go_sem, Nat.reduceAdd]) rfl (by first | exact Or.inl rfl | exact Or.inr ⟨rfl, rfl⟩ | (apply Or.inr; simp only [go_sem])) ?_; (repeat (first | simp (maxSteps := 2000000) (disch := omega) only [go_sem, ↓reduceIte, Nat.reduceEqDiff, Nat.reduceAdd, Nat.reduceMul, Nat.reduceSub, Int.reduceToNat, Int.reduceAdd, Int.reduceSub, Int.reduceMul, Int.reduceNeg] | with_reducible refine vIf_t ?_ | with_reducible refine vIf_f ?_)))
    (refine vCallX_of ?_; (repeat (first | simp (maxSteps := 2000000) (disch := omega) only [go_sem, ↓reduceIte, Nat.reduceEqDiff, Nat.reduceAdd, Nat.reduceMul, Nat.reduceSub, Int.reduceToNat, Int.reduceAdd, Int.reduceSub, Int.reduceMul, Int.reduceNeg] | with_reducible refine vIf_t ?_ | with_reducible refine vIf_f ?_)); refine vCall_eq (c2) (by simp (disch := omega) only [go_sem, Nat.reduceAdd]) rfl (by first | exact Or.inl rfl | exact Or.inr ⟨rfl, rfl⟩ | (apply Or.inr; simp only [go_sem])) ?_; (repeat (first | simp (maxSteps := 2000000) (disch := omega) only [go_sem, ↓reduceIte, Nat.reduceEqDiff, Nat.reduceAdd, Nat.reduceMul, Nat.reduceSub, Int.reduceToNat, Int.reduceAdd, Int.reduceSub, Int.reduceMul, Int.reduceNeg] | with_reducible refine vIf_t ?_ | with_reducible refine vIf_f ?_)))
    rw [List.length_append] at r1 r2
    have t1 : (ys ++ zs).take (ys.length + zs.length) = ys ++ zs := List.take_of_length_le (by simp)
    have t2 : (zs ++ ys).take (zs.length + ys.length) = zs ++ ys := List.take_of_length_le (by simp)
    have r1' : ACalls Try.prog 73 [.sl ds.length (cDf ds), I x, .sl (ys.length + zs.length) (ints ((ys ++ zs).take (ys.length + zs.length)))] [] (fun r o => r = I (rcost ds x (ys ++ zs)) ∧ o = []) := by rw [t1]; exact r1
    have r2' : ACalls Try.prog 73 [.sl ds.length (cDf ds), I x, .sl (zs.length + ys.length) (ints ((zs ++ ys).take (zs.length + ys.length)))] [] (fun r o => r = I (rcost ds x (zs ++ ys)) ∧ o = []) := by rw [t2]; exact r2
    (refine vCallX_of ?_; (repeat (first | simp (maxSteps := 2000000) (disch := omega) only [go_sem, ↓reduceIte, Nat.reduceEqDiff, Nat.reduceAdd, Nat.reduceMul, Nat.reduceSub, Int.reduceToNat, Int.reduceAdd, Int.reduceSub, Int.reduceMul, Int.reduceNeg] | with_reducible refine vIf_t ?_ | with_reducible refine vIf_f ?_)); refine vCall_eq (r2') (by simp (disch := omega) only [go_sem, Nat.reduceAdd]) rfl (by first | exact Or.inl rfl | exact Or.inr ⟨rfl, rfl⟩ | (apply Or.inr; simp only [go_sem])) ?_; (repeat (first | simp (maxSteps := 2000000) (disch := omega) only [go_sem, ↓reduceIte, Nat.reduceEqDiff, Nat.reduceAdd, Nat.reduceMul, Nat.reduceSub, Int.reduceToNat, Int.reduceAdd, Int.reduceSub, Int.reduceMul, Int.reduceNeg] | with_reducible refine vIf_t ?_ | with_reducible refine vIf_f ?_)))
    (refine vCallX_of ?_; (repeat (first | simp (maxSteps := 2000000) (disch := omega) only [go_sem, ↓reduceIte, Nat.reduceEqDiff, Nat.reduceAdd, Nat.reduceMul, Nat.reduceSub, Int.reduceToNat, Int.reduceAdd, Int.reduceSub, Int.reduceMul, Int.reduceNeg] | with_reducible refine vIf_t ?_ | with_reducible refine vIf_f ?_)); refine vCall_eq (r1') (by simp (disch := omega) only [go_sem, Nat.reduceAdd]) rfl (by first | exact Or.inl rfl | exact Or.inr ⟨rfl, rfl⟩ | (apply Or.inr; simp only [go_sem])) ?_; (repeat (first | simp (maxSteps := 2000000) (disch := omega) only [go_sem, ↓reduceIte, Nat.reduceEqDiff, Nat.reduceAdd, Nat.reduceMul, Nat.reduceSub, Int.reduceToNat, Int.reduceAdd, Int.reduceSub, Int.reduceMul, Int.reduceNeg] | with_reducible refine vIf_t ?_ | with_reducible refine vIf_f ?_)))
    have hmin := fun q hq => route_min ds x ys zs q1 (fun y hy => (hdm y (M1.p.subset hy)).2) q2 (fun y hy => (hum y (M2.p.subset hy)).2) q hq
    have hin : ∀ i, i ∈ ys ∨ i ∈ zs → i ∈ L := fun i hi => hperm.subset (List.mem_append.2 (hi.imp (fun h => M1.p.subset h) (fun h => M2.p.subset h)))
    have hp1 : (ys ++ zs).Perm L := (M1.p.append M2.p).trans hperm
    refine vIf_dec (fun h5 => ?_) (fun h5 => ?_)
    · (repeat (first | simp (maxSteps := 2000000) (disch := omega) only [go_sem, ↓reduceIte, Nat.reduceEqDiff, Nat.reduceAdd, Nat.reduceMul, Nat.reduceSub, Int.reduceToNat, Int.reduceAdd, Int.reduceSub, Int.reduceMul, Int.reduceNeg] | with_reducible refine vIf_t ?_ | with_reducible refine vIf_f ?_))
      (refine retK_of ?_; (repeat (first | simp (maxSteps := 2000000) (disch := omega) only [go_sem, ↓reduceIte, Nat.reduceEqDiff, Nat.reduceAdd, Nat.reduceMul, Nat.reduceSub, Int.reduceToNat, Int.reduceAdd, Int.reduceSub, Int.reduceMul, Int.reduceNeg] | with_reducible refine vIf_t ?_ | with_reducible refine vIf_f ?_)))
      refine ⟨zs ++ ys, by rw [List.length_append], rfl, List.perm_append_comm.trans hp1, fun q hq => ?_⟩
      rcases hmin q (fun i hi => hq i (hin i hi)) with h | h <;> omega
    · (repeat (first | simp (maxSteps := 2000000) (disch := omega) only [go_sem, ↓reduceIte, Nat.reduceEqDiff, Nat.reduceAdd, Nat.reduceMul, Nat.reduceSub, Int.reduceToNat, Int.reduceAdd, Int.reduceSub, Int.reduceMul, Int.reduceNeg] | with_reducible refine vIf_t ?_ | with_reducible refine vIf_f ?_))
      (refine retK_of ?_; (repeat (first | simp (maxSteps := 2000000) (disch := omega) only [go_sem, ↓reduceIte, Nat.reduceEqDiff, Nat.reduceAdd, Nat.reduceMul, Nat.reduceSub, Int.reduceToNat, Int.reduceAdd, Int.reduceSub, Int.reduceMul, Int.reduceNeg] | with_reducible refine vIf_t ?_ | with_reducible refine vIf_f ?_)))
      refine ⟨ys ++ zs, by rw [List.length_append], rfl, hp1, fun q hq => ?_⟩
      rcases hmin q (fun i hi => hq i (hin i hi)) with h | h <;> omega
/-- a route of open ones without repetition costs what it costs -/
theorem szDf1_ok (xs : List V) (n : Nat) : ACalls Try.prog 75 [.sl n xs] [] (fun r o => r = I n ∧ o = []) := szDf_ok xs n
end Go.Proofs.Ytilocioajpcoiaa

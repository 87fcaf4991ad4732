/- bills: what is open; payments and remissions -/
import Derived.Test.YtneokdflhleidaaDoorBil1
set_option linter.unusedVariables false
set_option linter.unusedSimpArgs false
namespace Go.Proofs.YtneokdflhleidaaDoor
open Go.AG

/-- what an owner owes by the first bills -/
def opK (ds : List Bl) (w : Int) : Nat → Int
  | 0 => 0
  | k + 1 => opK ds w k + if (gBl ds k).owner = w then (gBl ds k).amt - (gBl ds k).paid else 0
theorem opK_bd {ds : List Bl} (X : BlX ds) (w : Int) (k : Nat) (hk : k ≤ ds.length) : 0 ≤ opK ds w k ∧ opK ds w k ≤ 1000000000 * k := by
  induction k with
  | zero => simp [opK]
  | succ k ih =>
    have := ih (by omega)
    obtain ⟨_, _, h1, h2⟩ := X.e k (by omega)
    simp only [opK]
    split <;> omega
theorem opK_same (ds es : List Bl) (w : Int) (k : Nat) (h : ∀ i, i < k → gBl es i = gBl ds i) : opK es w k = opK ds w k := by
  induction k with
  | zero => rfl
  | succ k ih => rw [opK, opK, ih (fun i hi => h i (by omega)), h k (by omega)]
theorem open_ok (b : Bl) (h : OkB b) : ACalls Tryd.prog 46 [.agg b.cells] [] (fun r o => r = I (b.amt - b.paid) ∧ o = []) := by
  refine ACalls.of_vc Tryd.func46 rfl (by decide) 8 rfl [.tmp 2] rfl (by simp) ?_
  obtain ⟨h1, h2, h3, h4⟩ := h
  unfold Bl.cells
  (repeat (first | simp (maxSteps := 2000000) (disch := omega) only [go_sem, ↓reduceIte, Nat.reduceEqDiff, Nat.reduceAdd, Nat.reduceMul, Nat.reduceSub, Int.reduceToNat, Int.reduceAdd, Int.reduceSub, Int.reduceMul, Int.reduceNeg] | with_reducible refine vIf_t ?_ | with_reducible refine vIf_f ?_))
  (refine retK_of ?_; (repeat (first | simp (maxSteps := 2000000) (disch := omega) only [go_sem, ↓reduceIte, Nat.reduceEqDiff, Nat.reduceAdd, Nat.reduceMul, Nat.reduceSub, Int.reduceToNat, Int.reduceAdd, Int.reduceSub, Int.reduceMul, Int.reduceNeg] | with_reducible refine vIf_t ?_ | with_reducible refine vIf_f ?_)))
set_option maxRecDepth 20000 in
set_option maxHeartbeats 2000000 in
theorem openOf_ok (ds : List Bl) (X : BlX ds) (w : Int) : ACalls Tryd.prog 44 [.sl ds.length (cBl ds), I w] [] (fun r o => r = I (opK ds w ds.length) ∧ o = []) := by
  refine ACalls.of_vc Tryd.func44 rfl (by decide) 24 rfl [.tmp 4] rfl (by simp) ?_
  have n := X.n
  (repeat (first | simp (maxSteps := 2000000) (disch := omega) only [go_sem, ↓reduceIte, Nat.reduceEqDiff, Nat.reduceAdd, Nat.reduceMul, Nat.reduceSub, Int.reduceToNat, Int.reduceAdd, Int.reduceSub, Int.reduceMul, Int.reduceNeg] | with_reducible refine vIf_t ?_ | with_reducible refine vIf_f ?_))
  refine vcLoop_invF (fun k : Nat => k ≤ ds.length) (fun k => ⟨24, 0, [(10, I k), (5, I (opK ds w k)), (1, I w), (8, .sl ds.length (cBl ds)), (9, I ds.length)], []⟩) (fun k => ds.length - k) 0 (by omega) (by rw [show opK ds w 0 = 0 from rfl]; (first | (refine leF_s ?_; ((repeat (first | simp (maxSteps := 2000000) (disch := omega) only [go_sem, ↓reduceIte, Nat.reduceEqDiff, Nat.reduceAdd, Nat.reduceMul, Nat.reduceSub, Int.reduceToNat, Int.reduceAdd, Int.reduceSub, Int.reduceMul, Int.reduceNeg] | with_reducible refine vIf_t ?_ | with_reducible refine vIf_f ?_)); all_goals (try simp); all_goals (try omega)); done) | (refine leF_p ?_; ((repeat (first | simp (maxSteps := 2000000) (disch := omega) only [go_sem, ↓reduceIte, Nat.reduceEqDiff, Nat.reduceAdd, Nat.reduceMul, Nat.reduceSub, Int.reduceToNat, Int.reduceAdd, Int.reduceSub, Int.reduceMul, Int.reduceNeg] | with_reducible refine vIf_t ?_ | with_reducible refine vIf_f ?_)); all_goals (try simp); all_goals (try omega)); done))) ?_
  intro k hk
  have hb := opK_bd X w k hk
  (repeat (first | simp (maxSteps := 2000000) (disch := omega) only [go_sem, ↓reduceIte, Nat.reduceEqDiff, Nat.reduceAdd, Nat.reduceMul, Nat.reduceSub, Int.reduceToNat, Int.reduceAdd, Int.reduceSub, Int.reduceMul, Int.reduceNeg] | with_reducible refine vIf_t ?_ | with_reducible refine vIf_f ?_))
  refine vIf_dec (fun h => ?_) (fun h => ?_)
  · have hkl : k < ds.length := by omega
    have ho := X.e k hkl
    have hop := open_ok (gBl ds k) ho
    obtain ⟨e1, e2, e3, e4⟩ := ho
    unfold Bl.cells at hop
    (repeat (first | simp (maxSteps := 2000000) (disch := omega) only [go_sem, ↓reduceIte, Nat.reduceEqDiff, Nat.reduceAdd, Nat.reduceMul, Nat.reduceSub, Int.reduceToNat, Int.reduceAdd, Int.reduceSub, Int.reduceMul, Int.reduceNeg] | with_reducible refine vIf_t ?_ | with_reducible refine vIf_f ?_))
    by_cases hw : (gBl ds k).owner = w
    · have c : ((gBl ds k).owner == w) = true := by simpa using hw
      (try (repeat (first | simp (maxSteps := 2000000) (disch := omega) only [go_sem, ↓reduceIte, Nat.reduceEqDiff, Nat.reduceAdd, Nat.reduceMul, Nat.reduceSub, Int.reduceToNat, Int.reduceAdd, Int.reduceSub, Int.reduceMul, Int.reduceNeg, c] | with_reducible refine vIf_t ?_ | with_reducible refine vIf_f ?_)))
      (refine vCallX_of ?_; (repeat (first | simp (maxSteps := 2000000) (disch := omega) only [go_sem, ↓reduceIte, Nat.reduceEqDiff, Nat.reduceAdd, Nat.reduceMul, Nat.reduceSub, Int.reduceToNat, Int.reduceAdd, Int.reduceSub, Int.reduceMul, Int.reduceNeg] | with_reducible refine vIf_t ?_ | with_reducible refine vIf_f ?_)); refine vCall_eq (hop) (by simp (disch := omega) only [go_sem, Nat.reduceAdd]) rfl (by first | exact Or.inl rfl | exact Or.inr ⟨rfl, rfl⟩ | (apply Or.inr; simp only [go_sem])) ?_; (repeat (first | simp (maxSteps := 2000000) (disch := omega) only [go_sem, ↓reduceIte, Nat.reduceEqDiff, Nat.reduceAdd, Nat.reduceMul, Nat.reduceSub, Int.reduceToNat, Int.reduceAdd, Int.reduceSub, Int.reduceMul, Int.reduceNeg] | with_reducible refine vIf_t ?_ | with_reducible refine vIf_f ?_)))
      refine againF (k + 1) (by omega) (by omega) ?_
      rw [opK, if_pos hw]
      (first | (refine leF_s ?_; ((repeat (first | simp (maxSteps := 2000000) (disch := omega) only [go_sem, ↓reduceIte, Nat.reduceEqDiff, Nat.reduceAdd, Nat.reduceMul, Nat.reduceSub, Int.reduceToNat, Int.reduceAdd, Int.reduceSub, Int.reduceMul, Int.reduceNeg] | with_reducible refine vIf_t ?_ | with_reducible refine vIf_f ?_)); all_goals (try simp); all_goals (try omega)); done) | (refine leF_p ?_; ((repeat (first | simp (maxSteps := 2000000) (disch := omega) only [go_sem, ↓reduceIte, Nat.reduceEqDiff, Nat.reduceAdd, Nat.reduceMul, Nat.reduceSub, Int.reduceToNat, Int.reduceAdd, Int.reduceSub, Int.reduceMul, Int.reduceNeg] | with_reducible refine vIf_t ?_ | with_reducible refine vIf_f ?_)); all_goals (try simp); all_goals (try omega)); done))
    · have c : ((gBl ds k).owner == w) = false := by simpa using hw
      (try (repeat (first | simp (maxSteps := 2000000) (disch := omega) only [go_sem, ↓reduceIte, Nat.reduceEqDiff, Nat.reduceAdd, Nat.reduceMul, Nat.reduceSub, Int.reduceToNat, Int.reduceAdd, Int.reduceSub, Int.reduceMul, Int.reduceNeg, c] | with_reducible refine vIf_t ?_ | with_reducible refine vIf_f ?_)))
      refine againF (k + 1) (by omega) (by omega) ?_
      rw [opK, if_neg hw, Int.add_zero]
      (first | (refine leF_s ?_; ((repeat (first | simp (maxSteps := 2000000) (disch := omega) only [go_sem, ↓reduceIte, Nat.reduceEqDiff, Nat.reduceAdd, Nat.reduceMul, Nat.reduceSub, Int.reduceToNat, Int.reduceAdd, Int.reduceSub, Int.reduceMul, Int.reduceNeg] | with_reducible refine vIf_t ?_ | with_reducible refine vIf_f ?_)); all_goals (try simp); all_goals (try omega)); done) | (refine leF_p ?_; ((repeat (first | simp (maxSteps := 2000000) (disch := omega) only [go_sem, ↓reduceIte, Nat.reduceEqDiff, Nat.reduceAdd, Nat.reduceMul, Nat.reduceSub, Int.reduceToNat, Int.reduceAdd, Int.reduceSub, Int.reduceMul, Int.reduceNeg] | with_reducible refine vIf_t ?_ | with_reducible refine vIf_f ?_)); all_goals (try simp); all_goals (try omega)); done))
  · (repeat (first | simp (maxSteps := 2000000) (disch := omega) only [go_sem, ↓reduceIte, Nat.reduceEqDiff, Nat.reduceAdd, Nat.reduceMul, Nat.reduceSub, Int.reduceToNat, Int.reduceAdd, Int.reduceSub, Int.reduceMul, Int.reduceNeg] | with_reducible refine vIf_t ?_ | with_reducible refine vIf_f ?_))
    (refine retK_of ?_; (repeat (first | simp (maxSteps := 2000000) (disch := omega) only [go_sem, ↓reduceIte, Nat.reduceEqDiff, Nat.reduceAdd, Nat.reduceMul, Nat.reduceSub, Int.reduceToNat, Int.reduceAdd, Int.reduceSub, Int.reduceMul, Int.reduceNeg] | with_reducible refine vIf_t ?_ | with_reducible refine vIf_f ?_)))
    rw [show k = ds.length by omega]
theorem billsCode_ok (ds : List Bl) (X : BlX ds) (w a : Int) (hw : 0 ≤ w ∧ w ≤ 39) (ha : 0 ≤ a ∧ a ≤ 1000000000) : ACalls Tryd.prog 43 [.sl ds.length (cBl ds), I w, I a] [] (fun r o => r = I 0 ∧ o = []) := by
  refine ACalls.of_vc Tryd.func43 rfl (by decide) 20 rfl [.tmp 6] rfl (by simp) ?_
  have h0 := validB_ok ds X
  have h1 := isOwner2_ok w
  have h2 := isShared_ok a
  rw [decide_eq_true hw] at h1
  rw [decide_eq_true ha] at h2
  (repeat (first | simp (maxSteps := 2000000) (disch := omega) only [go_sem, ↓reduceIte, Nat.reduceEqDiff, Nat.reduceAdd, Nat.reduceMul, Nat.reduceSub, Int.reduceToNat, Int.reduceAdd, Int.reduceSub, Int.reduceMul, Int.reduceNeg] | with_reducible refine vIf_t ?_ | with_reducible refine vIf_f ?_))
  (refine vCallX_of ?_; (repeat (first | simp (maxSteps := 2000000) (disch := omega) only [go_sem, ↓reduceIte, Nat.reduceEqDiff, Nat.reduceAdd, Nat.reduceMul, Nat.reduceSub, Int.reduceToNat, Int.reduceAdd, Int.reduceSub, Int.reduceMul, Int.reduceNeg] | with_reducible refine vIf_t ?_ | with_reducible refine vIf_f ?_)); refine vCall_eq (h0) (by simp (disch := omega) only [go_sem, Nat.reduceAdd]) rfl (by first | exact Or.inl rfl | exact Or.inr ⟨rfl, rfl⟩ | (apply Or.inr; simp only [go_sem])) ?_; (repeat (first | simp (maxSteps := 2000000) (disch := omega) only [go_sem, ↓reduceIte, Nat.reduceEqDiff, Nat.reduceAdd, Nat.reduceMul, Nat.reduceSub, Int.reduceToNat, Int.reduceAdd, Int.reduceSub, Int.reduceMul, Int.reduceNeg] | with_reducible refine vIf_t ?_ | with_reducible refine vIf_f ?_)))
  (refine vCallX_of ?_; (repeat (first | simp (maxSteps := 2000000) (disch := omega) only [go_sem, ↓reduceIte, Nat.reduceEqDiff, Nat.reduceAdd, Nat.reduceMul, Nat.reduceSub, Int.reduceToNat, Int.reduceAdd, Int.reduceSub, Int.reduceMul, Int.reduceNeg] | with_reducible refine vIf_t ?_ | with_reducible refine vIf_f ?_)); refine vCall_eq (h1) (by simp (disch := omega) only [go_sem, Nat.reduceAdd]) rfl (by first | exact Or.inl rfl | exact Or.inr ⟨rfl, rfl⟩ | (apply Or.inr; simp only [go_sem])) ?_; (repeat (first | simp (maxSteps := 2000000) (disch := omega) only [go_sem, ↓reduceIte, Nat.reduceEqDiff, Nat.reduceAdd, Nat.reduceMul, Nat.reduceSub, Int.reduceToNat, Int.reduceAdd, Int.reduceSub, Int.reduceMul, Int.reduceNeg] | with_reducible refine vIf_t ?_ | with_reducible refine vIf_f ?_)))
  (refine vCallX_of ?_; (repeat (first | simp (maxSteps := 2000000) (disch := omega) only [go_sem, ↓reduceIte, Nat.reduceEqDiff, Nat.reduceAdd, Nat.reduceMul, Nat.reduceSub, Int.reduceToNat, Int.reduceAdd, Int.reduceSub, Int.reduceMul, Int.reduceNeg] | with_reducible refine vIf_t ?_ | with_reducible refine vIf_f ?_)); refine vCall_eq (h2) (by simp (disch := omega) only [go_sem, Nat.reduceAdd]) rfl (by first | exact Or.inl rfl | exact Or.inr ⟨rfl, rfl⟩ | (apply Or.inr; simp only [go_sem])) ?_; (repeat (first | simp (maxSteps := 2000000) (disch := omega) only [go_sem, ↓reduceIte, Nat.reduceEqDiff, Nat.reduceAdd, Nat.reduceMul, Nat.reduceSub, Int.reduceToNat, Int.reduceAdd, Int.reduceSub, Int.reduceMul, Int.reduceNeg] | with_reducible refine vIf_t ?_ | with_reducible refine vIf_f ?_)))
  (refine retK_of ?_; (repeat (first | simp (maxSteps := 2000000) (disch := omega) only [go_sem, ↓reduceIte, Nat.reduceEqDiff, Nat.reduceAdd, Nat.reduceMul, Nat.reduceSub, Int.reduceToNat, Int.reduceAdd, Int.reduceSub, Int.reduceMul, Int.reduceNeg] | with_reducible refine vIf_t ?_ | with_reducible refine vIf_f ?_)))
theorem openOfI_ok (ds : List Bl) (X : BlX ds) (w : Int) (hw : 0 ≤ w ∧ w ≤ 39) : ACalls Tryd.prog 9 [.sl ds.length (cBl ds), I w] [] (fun r o => r = .tup [I (opK ds w ds.length), I 0] ∧ o = []) := by
  refine ACalls.of_vc Tryd.func9 rfl (by decide) 16 rfl [.tmp 4, .tmp 5] rfl (by simp) ?_
  have h0 := billsCode_ok ds X w 0 hw (by omega)
  have h1 := openOf_ok ds X w
  (repeat (first | simp (maxSteps := 2000000) (disch := omega) only [go_sem, ↓reduceIte, Nat.reduceEqDiff, Nat.reduceAdd, Nat.reduceMul, Nat.reduceSub, Int.reduceToNat, Int.reduceAdd, Int.reduceSub, Int.reduceMul, Int.reduceNeg] | with_reducible refine vIf_t ?_ | with_reducible refine vIf_f ?_))
  (refine vCallX_of ?_; (repeat (first | simp (maxSteps := 2000000) (disch := omega) only [go_sem, ↓reduceIte, Nat.reduceEqDiff, Nat.reduceAdd, Nat.reduceMul, Nat.reduceSub, Int.reduceToNat, Int.reduceAdd, Int.reduceSub, Int.reduceMul, Int.reduceNeg] | with_reducible refine vIf_t ?_ | with_reducible refine vIf_f ?_)); refine vCall_eq (h0) (by simp (disch := omega) only [go_sem, Nat.reduceAdd]) rfl (by first | exact Or.inl rfl | exact Or.inr ⟨rfl, rfl⟩ | (apply Or.inr; simp only [go_sem])) ?_; (repeat (first | simp (maxSteps := 2000000) (disch := omega) only [go_sem, ↓reduceIte, Nat.reduceEqDiff, Nat.reduceAdd, Nat.reduceMul, Nat.reduceSub, Int.reduceToNat, Int.reduceAdd, Int.reduceSub, Int.reduceMul, Int.reduceNeg] | with_reducible refine vIf_t ?_ | with_reducible refine vIf_f ?_)))
  (refine vCallX_of ?_; (repeat (first | simp (maxSteps := 2000000) (disch := omega) only [go_sem, ↓reduceIte, Nat.reduceEqDiff, Nat.reduceAdd, Nat.reduceMul, Nat.reduceSub, Int.reduceToNat, Int.reduceAdd, Int.reduceSub, Int.reduceMul, Int.reduceNeg] | with_reducible refine vIf_t ?_ | with_reducible refine vIf_f ?_)); refine vCall_eq (h1) (by simp (disch := omega) only [go_sem, Nat.reduceAdd]) rfl (by first | exact Or.inl rfl | exact Or.inr ⟨rfl, rfl⟩ | (apply Or.inr; simp only [go_sem])) ?_; (repeat (first | simp (maxSteps := 2000000) (disch := omega) only [go_sem, ↓reduceIte, Nat.reduceEqDiff, Nat.reduceAdd, Nat.reduceMul, Nat.reduceSub, Int.reduceToNat, Int.reduceAdd, Int.reduceSub, Int.reduceMul, Int.reduceNeg] | with_reducible refine vIf_t ?_ | with_reducible refine vIf_f ?_)))
  (refine retK_of ?_; (repeat (first | simp (maxSteps := 2000000) (disch := omega) only [go_sem, ↓reduceIte, Nat.reduceEqDiff, Nat.reduceAdd, Nat.reduceMul, Nat.reduceSub, Int.reduceToNat, Int.reduceAdd, Int.reduceSub, Int.reduceMul, Int.reduceNeg] | with_reducible refine vIf_t ?_ | with_reducible refine vIf_f ?_)))
theorem cloneBl_ok (xs : List Bl) (hl : xs.length ≤ 10000000) : ACalls Tryd.prog 45 [.sl xs.length (cBl xs)] [] (fun r o => r = .ref 0 0 xs.length ∧ o = [some ⟨4, cBl xs⟩]) := by
  refine ACalls.of_vc Tryd.func45 rfl (by decide) 6 rfl [.tmp 2] rfl (by simp) ?_
  (repeat (first | simp (maxSteps := 2000000) (disch := omega) only [go_sem, ↓reduceIte, Nat.reduceEqDiff, Nat.reduceAdd, Nat.reduceMul, Nat.reduceSub, Int.reduceToNat, Int.reduceAdd, Int.reduceSub, Int.reduceMul, Int.reduceNeg] | with_reducible refine vIf_t ?_ | with_reducible refine vIf_f ?_))
  (refine retK_of ?_; (repeat (first | simp (maxSteps := 2000000) (disch := omega) only [go_sem, ↓reduceIte, Nat.reduceEqDiff, Nat.reduceAdd, Nat.reduceMul, Nat.reduceSub, Int.reduceToNat, Int.reduceAdd, Int.reduceSub, Int.reduceMul, Int.reduceNeg] | with_reducible refine vIf_t ?_ | with_reducible refine vIf_f ?_)))
@[go_sem high] theorem takeBl1 (ds : List Bl) (k : Nat) (h : k < ds.length) : (cBl (ds.drop k)).take 4 = [.sc (.int .i64 (gBl ds k).owner), .sc (.int .i64 (gBl ds k).day), .sc (.int .i64 (gBl ds k).amt), .sc (.int .i64 (gBl ds k).paid)] := by
  rw [List.drop_eq_getElem_cons h, gBl_lt ds k h]
  rfl
/-- what a payment knows after its first bills -/
structure PyK (ds : List Bl) (w a0 : Int) (es : List Bl) (a : Int) (k : Nat) : Prop where
  l : es.length = ds.length
  f : ∀ i, i < ds.length → (gBl es i).owner = (gBl ds i).owner ∧ (gBl es i).day = (gBl ds i).day ∧ OkB (gBl es i)
  r : ∀ i, k ≤ i → gBl es i = gBl ds i
  s : opK es w k = opK ds w k - (a0 - a)
  b : 0 ≤ a ∧ a ≤ a0
  z : 0 < a → opK es w k = 0
theorem PyK.start {ds : List Bl} (X : BlX ds) (w a0 : Int) (h : 0 ≤ a0) : PyK ds w a0 ds a0 0 :=
  ⟨rfl, fun i hi => ⟨rfl, rfl, X.e i hi⟩, fun _ _ => rfl, by simp [opK], by omega, fun _ => rfl⟩
theorem PyK.no {ds es : List Bl} {w a0 a : Int} {k : Nat} (h : PyK ds w a0 es a k) (hw : (gBl es k).owner ≠ w) : PyK ds w a0 es a (k + 1) := by
  have hr := h.r k (Nat.le_refl _)
  have hs := h.s
  refine ⟨h.l, h.f, fun i hi => h.r i (by omega), ?_, h.b, fun ha => ?_⟩
  · rw [opK, opK, ← hr, if_neg hw]; omega
  · rw [opK, if_neg hw, h.z ha]; rfl
theorem PyK.yes {ds es : List Bl} {w a0 a n : Int} {k : Nat} (h : PyK ds w a0 es a k) (hk : k < ds.length) (hw : (gBl es k).owner = w) (hn : n = if (gBl es k).amt - (gBl es k).paid < a then (gBl es k).amt - (gBl es k).paid else a) :
    PyK ds w a0 (es.set k { gBl es k with paid := (gBl es k).paid + n }) (a - n) (k + 1) := by
  have hr := h.r k (Nat.le_refl _)
  have hs := h.s
  have hl := h.l
  have ha := h.b
  obtain ⟨f1, f2, f3⟩ := h.f k hk
  obtain ⟨o1, o2, o3, o4⟩ := f3
  have gk : gBl (es.set k { gBl es k with paid := (gBl es k).paid + n }) k = { gBl es k with paid := (gBl es k).paid + n } := gBl_set_same _ _ _ (by omega)
  have gn : ∀ i, i ≠ k → gBl (es.set k { gBl es k with paid := (gBl es k).paid + n }) i = gBl es i := fun i hi => gBl_set_ne _ _ _ _ (fun e => hi e.symm)
  have os : opK (es.set k { gBl es k with paid := (gBl es k).paid + n }) w k = opK es w k := opK_same _ _ _ _ fun i hi => gn i (by omega)
  refine ⟨by simp [hl], fun i hi => ?_, fun i hi => ?_, ?_, by split at hn <;> omega, fun h0 => ?_⟩
  · by_cases e : i = k
    · subst e
      rw [gk]
      exact ⟨f1, f2, o1, o2, o3, by simp only; split at hn <;> omega⟩
    · rw [gn i e]; exact h.f i hi
  · rw [gn i (by omega)]; exact h.r i (by omega)
  · rw [opK, opK, os, gk, ← hr]
    simp only [hw, if_true]
    omega
  · rw [opK, os, gk, h.z (by split at hn <;> omega)]
    simp only [hw, if_true]
    split at hn <;> omega
set_option maxRecDepth 20000 in
set_option maxHeartbeats 4000000 in
theorem payBills_ok (ds : List Bl) (X : BlX ds) (w a0 : Int) (hw : 0 ≤ w ∧ w ≤ 39) (ha : 0 ≤ a0 ∧ a0 ≤ 1000000000) : ACalls Tryd.prog 10 [.sl ds.length (cBl ds), I w, I a0] []
    (fun r o => ∃ es a, r = .tup [.sl ds.length (cBl es), I a, I 0] ∧ o = [] ∧ PyK ds w a0 es a ds.length) := by
  refine ACalls.of_vc Tryd.func10 rfl (by decide) 54 rfl [.tmp 6, .tmp 7, .tmp 8] rfl (by simp) ?_
  have n := X.n
  have h0 := billsCode_ok ds X w a0 hw ha
  have h1 := cloneBl_ok ds (by omega)
  (repeat (first | simp (maxSteps := 2000000) (disch := omega) only [go_sem, ↓reduceIte, Nat.reduceEqDiff, Nat.reduceAdd, Nat.reduceMul, Nat.reduceSub, Int.reduceToNat, Int.reduceAdd, Int.reduceSub, Int.reduceMul, Int.reduceNeg] | with_reducible refine vIf_t ?_ | with_reducible refine vIf_f ?_))
  (refine vCallX_of ?_; (repeat (first | simp (maxSteps := 2000000) (disch := omega) only [go_sem, ↓reduceIte, Nat.reduceEqDiff, Nat.reduceAdd, Nat.reduceMul, Nat.reduceSub, Int.reduceToNat, Int.reduceAdd, Int.reduceSub, Int.reduceMul, Int.reduceNeg] | with_reducible refine vIf_t ?_ | with_reducible refine vIf_f ?_)); refine vCall_eq (h0) (by simp (disch := omega) only [go_sem, Nat.reduceAdd]) rfl (by first | exact Or.inl rfl | exact Or.inr ⟨rfl, rfl⟩ | (apply Or.inr; simp only [go_sem])) ?_; (repeat (first | simp (maxSteps := 2000000) (disch := omega) only [go_sem, ↓reduceIte, Nat.reduceEqDiff, Nat.reduceAdd, Nat.reduceMul, Nat.reduceSub, Int.reduceToNat, Int.reduceAdd, Int.reduceSub, Int.reduceMul, Int.reduceNeg] | with_reducible refine vIf_t ?_ | with_reducible refine vIf_f ?_)))
  (refine vCallX_io [] ?_; (repeat (first | simp (maxSteps := 2000000) (disch := omega) only [go_sem, ↓reduceIte, Nat.reduceEqDiff, Nat.reduceAdd, Nat.reduceMul, Nat.reduceSub, Int.reduceToNat, Int.reduceAdd, Int.reduceSub, Int.reduceMul, Int.reduceNeg] | with_reducible refine vIf_t ?_ | with_reducible refine vIf_f ?_)); refine vCallIO_eq (h1) (by simp (disch := omega) only [go_sem, Nat.reduceAdd, Nat.reduceEqDiff]) (by simp (disch := omega) only [go_sem, Nat.reduceAdd, Nat.reduceEqDiff]) (by first | rfl | (simp (disch := omega) only [go_sem, Nat.reduceAdd, Nat.reduceEqDiff])) (by first | rfl | (simp (disch := omega) only [go_sem, Nat.reduceAdd, Nat.reduceEqDiff])) (by first | rfl | (simp (disch := omega) only [go_sem, Nat.reduceAdd, Nat.reduceEqDiff])) (by first | (simp (disch := omega) only [go_sem, Nat.reduceAdd, Nat.reduceEqDiff]) | skip) ?_; (repeat (first | simp (maxSteps := 2000000) (disch := omega) only [go_sem, ↓reduceIte, Nat.reduceEqDiff, Nat.reduceAdd, Nat.reduceMul, Nat.reduceSub, Int.reduceToNat, Int.reduceAdd, Int.reduceSub, Int.reduceMul, Int.reduceNeg] | with_reducible refine vIf_t ?_ | with_reducible refine vIf_f ?_)))
  refine vcLoop_invF (fun x : Nat × List Bl × Int => x.1 ≤ ds.length ∧ PyK ds w a0 x.2.1 x.2.2 x.1) (fun x => ⟨54, 0, [(26, I x.1), (2, I x.2.2), (10, .ref 0 0 ds.length), (1, I w), (24, .ref 0 0 ds.length), (25, I ds.length)], [some ⟨4, cBl x.2.1⟩]⟩) (fun x => ds.length - x.1) (0, ds, a0) ⟨by simp, PyK.start X w a0 ha.1⟩ (by (first | (refine leF_s ?_; ((repeat (first | simp (maxSteps := 2000000) (disch := omega) only [go_sem, ↓reduceIte, Nat.reduceEqDiff, Nat.reduceAdd, Nat.reduceMul, Nat.reduceSub, Int.reduceToNat, Int.reduceAdd, Int.reduceSub, Int.reduceMul, Int.reduceNeg] | with_reducible refine vIf_t ?_ | with_reducible refine vIf_f ?_)); all_goals (try simp); all_goals (try omega)); done) | (refine leF_p ?_; ((repeat (first | simp (maxSteps := 2000000) (disch := omega) only [go_sem, ↓reduceIte, Nat.reduceEqDiff, Nat.reduceAdd, Nat.reduceMul, Nat.reduceSub, Int.reduceToNat, Int.reduceAdd, Int.reduceSub, Int.reduceMul, Int.reduceNeg] | with_reducible refine vIf_t ?_ | with_reducible refine vIf_f ?_)); all_goals (try simp); all_goals (try omega)); done))) ?_
  rintro ⟨k, es, a⟩ ⟨hk, P⟩
  simp only at hk P
  have hl := P.l
  have hab := P.b
  (repeat (first | simp (maxSteps := 2000000) (disch := omega) only [go_sem, ↓reduceIte, Nat.reduceEqDiff, Nat.reduceAdd, Nat.reduceMul, Nat.reduceSub, Int.reduceToNat, Int.reduceAdd, Int.reduceSub, Int.reduceMul, Int.reduceNeg] | with_reducible refine vIf_t ?_ | with_reducible refine vIf_f ?_))
  refine vIf_dec (fun h => ?_) (fun h => ?_)
  · have hkl : k < ds.length := by omega
    obtain ⟨f1, f2, f3⟩ := P.f k hkl
    have hop := open_ok (gBl es k) f3
    obtain ⟨o1, o2, o3, o4⟩ := f3
    unfold Bl.cells at hop
    (repeat (first | simp (maxSteps := 2000000) (disch := omega) only [go_sem, ↓reduceIte, Nat.reduceEqDiff, Nat.reduceAdd, Nat.reduceMul, Nat.reduceSub, Int.reduceToNat, Int.reduceAdd, Int.reduceSub, Int.reduceMul, Int.reduceNeg] | with_reducible refine vIf_t ?_ | with_reducible refine vIf_f ?_))
    by_cases hw : (gBl es k).owner = w
    · have c : ((gBl es k).owner == w) = true := by simpa using hw
      obtain ⟨nn, hnn⟩ : ∃ nn, nn = (if (gBl es k).amt - (gBl es k).paid < a then (gBl es k).amt - (gBl es k).paid else a) := ⟨_, rfl⟩
      have hnb : 0 ≤ nn ∧ nn ≤ a ∧ nn ≤ (gBl es k).amt - (gBl es k).paid := by split at hnn <;> omega
      have P2 := P.yes hkl hw hnn
      (try (repeat (first | simp (maxSteps := 2000000) (disch := omega) only [go_sem, ↓reduceIte, Nat.reduceEqDiff, Nat.reduceAdd, Nat.reduceMul, Nat.reduceSub, Int.reduceToNat, Int.reduceAdd, Int.reduceSub, Int.reduceMul, Int.reduceNeg, c] | with_reducible refine vIf_t ?_ | with_reducible refine vIf_f ?_)))
      (refine vCallX_of ?_; (repeat (first | simp (maxSteps := 2000000) (disch := omega) only [go_sem, ↓reduceIte, Nat.reduceEqDiff, Nat.reduceAdd, Nat.reduceMul, Nat.reduceSub, Int.reduceToNat, Int.reduceAdd, Int.reduceSub, Int.reduceMul, Int.reduceNeg] | with_reducible refine vIf_t ?_ | with_reducible refine vIf_f ?_)); refine vCall_eq (hop) (by simp (disch := omega) only [go_sem, Nat.reduceAdd]) rfl (by first | exact Or.inl rfl | exact Or.inr ⟨rfl, rfl⟩ | (apply Or.inr; simp only [go_sem])) ?_; (repeat (first | simp (maxSteps := 2000000) (disch := omega) only [go_sem, ↓reduceIte, Nat.reduceEqDiff, Nat.reduceAdd, Nat.reduceMul, Nat.reduceSub, Int.reduceToNat, Int.reduceAdd, Int.reduceSub, Int.reduceMul, Int.reduceNeg] | with_reducible refine vIf_t ?_ | with_reducible refine vIf_f ?_)))
      simp only [← hnn]
      (repeat (first | simp (maxSteps := 2000000) (disch := omega) only [go_sem, ↓reduceIte, Nat.reduceEqDiff, Nat.reduceAdd, Nat.reduceMul, Nat.reduceSub, Int.reduceToNat, Int.reduceAdd, Int.reduceSub, Int.reduceMul, Int.reduceNeg] | with_reducible refine vIf_t ?_ | with_reducible refine vIf_f ?_))
      refine againF (k + 1, es.set k { gBl es k with paid := (gBl es k).paid + nn }, a - nn) ⟨by simp only; omega, P2⟩ (by simp only; omega) (by (first | (refine leF_s ?_; ((repeat (first | simp (maxSteps := 2000000) (disch := omega) only [go_sem, ↓reduceIte, Nat.reduceEqDiff, Nat.reduceAdd, Nat.reduceMul, Nat.reduceSub, Int.reduceToNat, Int.reduceAdd, Int.reduceSub, Int.reduceMul, Int.reduceNeg] | with_reducible refine vIf_t ?_ | with_reducible refine vIf_f ?_)); all_goals (try simp); all_goals (try omega)); done) | (refine leF_p ?_; ((repeat (first | simp (maxSteps := 2000000) (disch := omega) only [go_sem, ↓reduceIte, Nat.reduceEqDiff, Nat.reduceAdd, Nat.reduceMul, Nat.reduceSub, Int.reduceToNat, Int.reduceAdd, Int.reduceSub, Int.reduceMul, Int.reduceNeg] | with_reducible refine vIf_t ?_ | with_reducible refine vIf_f ?_)); all_goals (try simp); all_goals (try omega)); done)))
    · have c : ((gBl es k).owner == w) = false := by simpa using hw
      (try (repeat (first | simp (maxSteps := 2000000) (disch := omega) only [go_sem, ↓reduceIte, Nat.reduceEqDiff, Nat.reduceAdd, Nat.reduceMul, Nat.reduceSub, Int.reduceToNat, Int.reduceAdd, Int.reduceSub, Int.reduceMul, Int.reduceNeg, c] | with_reducible refine vIf_t ?_ | with_reducible refine vIf_f ?_)))
      exact againF (k + 1, es, a) ⟨by simp only; omega, P.no hw⟩ (by simp only; omega) (by (first | (refine leF_s ?_; ((repeat (first | simp (maxSteps := 2000000) (disch := omega) only [go_sem, ↓reduceIte, Nat.reduceEqDiff, Nat.reduceAdd, Nat.reduceMul, Nat.reduceSub, Int.reduceToNat, Int.reduceAdd, Int.reduceSub, Int.reduceMul, Int.reduceNeg] | with_reducible refine vIf_t ?_ | with_reducible refine vIf_f ?_)); all_goals (try simp); all_goals (try omega)); done) | (refine leF_p ?_; ((repeat (first | simp (maxSteps := 2000000) (disch := omega) only [go_sem, ↓reduceIte, Nat.reduceEqDiff, Nat.reduceAdd, Nat.reduceMul, Nat.reduceSub, Int.reduceToNat, Int.reduceAdd, Int.reduceSub, Int.reduceMul, Int.reduceNeg] | with_reducible refine vIf_t ?_ | with_reducible refine vIf_f ?_)); all_goals (try simp); all_goals (try omega)); done)))
  · (repeat (first | simp (maxSteps := 2000000) (disch := omega) only [go_sem, ↓reduceIte, Nat.reduceEqDiff, Nat.reduceAdd, Nat.reduceMul, Nat.reduceSub, Int.reduceToNat, Int.reduceAdd, Int.reduceSub, Int.reduceMul, Int.reduceNeg] | with_reducible refine vIf_t ?_ | with_reducible refine vIf_f ?_))
    rw [show k = ds.length by omega] at P
    refine retK_frz (.step 0 ⟨4, cBl es⟩ rfl (by (repeat (first | simp (maxSteps := 2000000) (disch := omega) only [go_sem, ↓reduceIte, Nat.reduceEqDiff, Nat.reduceAdd, Nat.reduceMul, Nat.reduceSub, Int.reduceToNat, Int.reduceAdd, Int.reduceSub, Int.reduceMul, Int.reduceNeg] | with_reducible refine vIf_t ?_ | with_reducible refine vIf_f ?_))) (.refl _)) ?_
    (repeat (first | simp (maxSteps := 2000000) (disch := omega) only [go_sem, ↓reduceIte, Nat.reduceEqDiff, Nat.reduceAdd, Nat.reduceMul, Nat.reduceSub, Int.reduceToNat, Int.reduceAdd, Int.reduceSub, Int.reduceMul, Int.reduceNeg] | with_reducible refine vIf_t ?_ | with_reducible refine vIf_f ?_))
    exact ⟨es, a, rfl, P⟩
/-- what a remission knows after its first bills -/
structure RmK (ds : List Bl) (w pc : Int) (es : List Bl) (t : Int) (k : Nat) : Prop where
  l : es.length = ds.length
  f : ∀ i, i < ds.length → (gBl es i).owner = (gBl ds i).owner ∧ (gBl es i).day = (gBl ds i).day ∧ OkB (gBl es i)
  r : ∀ i, k ≤ i → gBl es i = gBl ds i
  s : opK es w k = opK ds w k - t
  b : 0 ≤ t ∧ 100 * t ≤ pc * opK ds w k
  z : pc = 100 → opK es w k = 0
theorem RmK.start {ds : List Bl} (X : BlX ds) (w pc : Int) : RmK ds w pc ds 0 0 :=
  ⟨rfl, fun i hi => ⟨rfl, rfl, X.e i hi⟩, fun _ _ => rfl, by simp [opK], by simp [opK], fun _ => rfl⟩
theorem RmK.no {ds es : List Bl} {w pc t : Int} {k : Nat} (h : RmK ds w pc es t k) (hw : (gBl es k).owner ≠ w) : RmK ds w pc es t (k + 1) := by
  have hr := h.r k (Nat.le_refl _)
  have hs := h.s
  refine ⟨h.l, h.f, fun i hi => h.r i (by omega), ?_, ?_, fun ha => ?_⟩
  · rw [opK, opK, ← hr, if_neg hw]; omega
  · rw [opK, ← hr, if_neg hw, Int.add_zero]; exact h.b
  · rw [opK, if_neg hw, h.z ha]; rfl
theorem RmK.yes {ds es : List Bl} {w pc t n : Int} {k : Nat} (h : RmK ds w pc es t k) (hp : 0 ≤ pc ∧ pc ≤ 100) (hk : k < ds.length) (hw : (gBl es k).owner = w) (hn : 0 ≤ n ∧ 100 * n ≤ pc * ((gBl es k).amt - (gBl es k).paid)) (hz : pc = 100 → n = (gBl es k).amt - (gBl es k).paid) :
    RmK ds w pc (es.set k { gBl es k with amt := (gBl es k).amt - n }) (t + n) (k + 1) := by
  have hr := h.r k (Nat.le_refl _)
  have hs := h.s
  have hl := h.l
  have hb := h.b
  obtain ⟨f1, f2, f3⟩ := h.f k hk
  obtain ⟨o1, o2, o3, o4⟩ := f3
  have hle : n ≤ (gBl es k).amt - (gBl es k).paid := by
    have : pc * ((gBl es k).amt - (gBl es k).paid) ≤ 100 * ((gBl es k).amt - (gBl es k).paid) := Int.mul_le_mul_of_nonneg_right hp.2 (by omega)
    omega
  have gk : gBl (es.set k { gBl es k with amt := (gBl es k).amt - n }) k = { gBl es k with amt := (gBl es k).amt - n } := gBl_set_same _ _ _ (by omega)
  have gn : ∀ i, i ≠ k → gBl (es.set k { gBl es k with amt := (gBl es k).amt - n }) i = gBl es i := fun i hi => gBl_set_ne _ _ _ _ (fun e => hi e.symm)
  have os : opK (es.set k { gBl es k with amt := (gBl es k).amt - n }) w k = opK es w k := opK_same _ _ _ _ fun i hi => gn i (by omega)
  refine ⟨by simp [hl], fun i hi => ?_, fun i hi => ?_, ?_, ⟨by omega, ?_⟩, fun h0 => ?_⟩
  · by_cases e : i = k
    · subst e
      rw [gk]
      exact ⟨f1, f2, o1, o2, by simp only; omega, by simp only; omega⟩
    · rw [gn i e]; exact h.f i hi
  · rw [gn i (by omega)]; exact h.r i (by omega)
  · rw [opK, opK, os, gk, ← hr]
    simp only [hw, if_true]
    omega
  · rw [opK, ← hr, if_pos hw, Int.mul_add pc]
    omega
  · have := hz h0
    rw [opK, os, gk, h.z h0]
    simp only [hw, if_true]
    omega
set_option maxRecDepth 20000 in
set_option maxHeartbeats 4000000 in
theorem remitBills_ok (ds : List Bl) (X : BlX ds) (w pc : Int) (hw : 0 ≤ w ∧ w ≤ 39) (hp : 0 ≤ pc ∧ pc ≤ 100) : ACalls Tryd.prog 12 [.sl ds.length (cBl ds), I w, I pc] []
    (fun r o => ∃ es t, r = .tup [.sl ds.length (cBl es), I t, I 0] ∧ o = [] ∧ RmK ds w pc es t ds.length) := by
  refine ACalls.of_vc Tryd.func12 rfl (by decide) 59 rfl [.tmp 6, .tmp 7, .tmp 8] rfl (by simp) ?_
  have n := X.n
  have h0 := billsCode_ok ds X w 0 hw (by omega)
  have h1 := cloneBl_ok ds (by omega)
  have h2 := in_ok pc 0 100
  rw [decide_eq_true hp] at h2
  (repeat (first | simp (maxSteps := 2000000) (disch := omega) only [go_sem, ↓reduceIte, Nat.reduceEqDiff, Nat.reduceAdd, Nat.reduceMul, Nat.reduceSub, Int.reduceToNat, Int.reduceAdd, Int.reduceSub, Int.reduceMul, Int.reduceNeg] | with_reducible refine vIf_t ?_ | with_reducible refine vIf_f ?_))
  (refine vCallX_of ?_; (repeat (first | simp (maxSteps := 2000000) (disch := omega) only [go_sem, ↓reduceIte, Nat.reduceEqDiff, Nat.reduceAdd, Nat.reduceMul, Nat.reduceSub, Int.reduceToNat, Int.reduceAdd, Int.reduceSub, Int.reduceMul, Int.reduceNeg] | with_reducible refine vIf_t ?_ | with_reducible refine vIf_f ?_)); refine vCall_eq (h0) (by simp (disch := omega) only [go_sem, Nat.reduceAdd]) rfl (by first | exact Or.inl rfl | exact Or.inr ⟨rfl, rfl⟩ | (apply Or.inr; simp only [go_sem])) ?_; (repeat (first | simp (maxSteps := 2000000) (disch := omega) only [go_sem, ↓reduceIte, Nat.reduceEqDiff, Nat.reduceAdd, Nat.reduceMul, Nat.reduceSub, Int.reduceToNat, Int.reduceAdd, Int.reduceSub, Int.reduceMul, Int.reduceNeg] | with_reducible refine vIf_t ?_ | with_reducible refine vIf_f ?_)))
  (refine vCallX_of ?_; (repeat (first | simp (maxSteps := 2000000) (disch := omega) only [go_sem, ↓reduceIte, Nat.reduceEqDiff, Nat.reduceAdd, Nat.reduceMul, Nat.reduceSub, Int.reduceToNat, Int.reduceAdd, Int.reduceSub, Int.reduceMul, Int.reduceNeg] | with_reducible refine vIf_t ?_ | with_reducible refine vIf_f ?_)); refine vCall_eq (h2) (by simp (disch := omega) only [go_sem, Nat.reduceAdd]) rfl (by first | exact Or.inl rfl | exact Or.inr ⟨rfl, rfl⟩ | (apply Or.inr; simp only [go_sem])) ?_; (repeat (first | simp (maxSteps := 2000000) (disch := omega) only [go_sem, ↓reduceIte, Nat.reduceEqDiff, Nat.reduceAdd, Nat.reduceMul, Nat.reduceSub, Int.reduceToNat, Int.reduceAdd, Int.reduceSub, Int.reduceMul, Int.reduceNeg] | with_reducible refine vIf_t ?_ | with_reducible refine vIf_f ?_)))
  (refine vCallX_io [] ?_; (repeat (first | simp (maxSteps := 2000000) (disch := omega) only [go_sem, ↓reduceIte, Nat.reduceEqDiff, Nat.reduceAdd, Nat.reduceMul, Nat.reduceSub, Int.reduceToNat, Int.reduceAdd, Int.reduceSub, Int.reduceMul, Int.reduceNeg] | with_reducible refine vIf_t ?_ | with_reducible refine vIf_f ?_)); refine vCallIO_eq (h1) (by simp (disch := omega) only [go_sem, Nat.reduceAdd, Nat.reduceEqDiff]) (by simp (disch := omega) only [go_sem, Nat.reduceAdd, Nat.reduceEqDiff]) (by first | rfl | (simp (disch := omega) only [go_sem, Nat.reduceAdd, Nat.reduceEqDiff])) (by first | rfl | (simp (disch := omega) only [go_sem, Nat.reduceAdd, Nat.reduceEqDiff])) (by first | rfl | (simp (disch := omega) only [go_sem, Nat.reduceAdd, Nat.reduceEqDiff])) (by first | (simp (disch := omega) only [go_sem, Nat.reduceAdd, Nat.reduceEqDiff]) | skip) ?_; (repeat (first | simp (maxSteps := 2000000) (disch := omega) only [go_sem, ↓reduceIte, Nat.reduceEqDiff, Nat.reduceAdd, Nat.reduceMul, Nat.reduceSub, Int.reduceToNat, Int.reduceAdd, Int.reduceSub, Int.reduceMul, Int.reduceNeg] | with_reducible refine vIf_t ?_ | with_reducible refine vIf_f ?_)))
  refine vcLoop_invF (fun x : Nat × List Bl × Int => x.1 ≤ ds.length ∧ RmK ds w pc x.2.1 x.2.2 x.1) (fun x => ⟨59, 0, [(30, I x.1), (11, I x.2.2), (10, .ref 0 0 ds.length), (2, I pc), (1, I w), (28, .ref 0 0 ds.length), (29, I ds.length)], [some ⟨4, cBl x.2.1⟩]⟩) (fun x => ds.length - x.1) (0, ds, 0) ⟨by simp, RmK.start X w pc⟩ (by (first | (refine leF_s ?_; ((repeat (first | simp (maxSteps := 2000000) (disch := omega) only [go_sem, ↓reduceIte, Nat.reduceEqDiff, Nat.reduceAdd, Nat.reduceMul, Nat.reduceSub, Int.reduceToNat, Int.reduceAdd, Int.reduceSub, Int.reduceMul, Int.reduceNeg] | with_reducible refine vIf_t ?_ | with_reducible refine vIf_f ?_)); all_goals (try simp); all_goals (try omega)); done) | (refine leF_p ?_; ((repeat (first | simp (maxSteps := 2000000) (disch := omega) only [go_sem, ↓reduceIte, Nat.reduceEqDiff, Nat.reduceAdd, Nat.reduceMul, Nat.reduceSub, Int.reduceToNat, Int.reduceAdd, Int.reduceSub, Int.reduceMul, Int.reduceNeg] | with_reducible refine vIf_t ?_ | with_reducible refine vIf_f ?_)); all_goals (try simp); all_goals (try omega)); done))) ?_
  rintro ⟨k, es, t⟩ ⟨hk, P⟩
  simp only at hk P
  have hl := P.l
  have hab := P.b
  have hob := opK_bd X w k hk
  have htb : t ≤ 1000000000 * k := by
    have : pc * opK ds w k ≤ 100 * opK ds w k := Int.mul_le_mul_of_nonneg_right hp.2 (by omega)
    omega
  (repeat (first | simp (maxSteps := 2000000) (disch := omega) only [go_sem, ↓reduceIte, Nat.reduceEqDiff, Nat.reduceAdd, Nat.reduceMul, Nat.reduceSub, Int.reduceToNat, Int.reduceAdd, Int.reduceSub, Int.reduceMul, Int.reduceNeg] | with_reducible refine vIf_t ?_ | with_reducible refine vIf_f ?_))
  refine vIf_dec (fun h => ?_) (fun h => ?_)
  · have hkl : k < ds.length := by omega
    obtain ⟨f1, f2, f3⟩ := P.f k hkl
    have hop := open_ok (gBl es k) f3
    obtain ⟨o1, o2, o3, o4⟩ := f3
    unfold Bl.cells at hop
    (repeat (first | simp (maxSteps := 2000000) (disch := omega) only [go_sem, ↓reduceIte, Nat.reduceEqDiff, Nat.reduceAdd, Nat.reduceMul, Nat.reduceSub, Int.reduceToNat, Int.reduceAdd, Int.reduceSub, Int.reduceMul, Int.reduceNeg] | with_reducible refine vIf_t ?_ | with_reducible refine vIf_f ?_))
    by_cases hw : (gBl es k).owner = w
    · have c : ((gBl es k).owner == w) = true := by simpa using hw
      obtain ⟨m, hm⟩ : ∃ m, ((gBl es k).amt - (gBl es k).paid) * pc = m := ⟨_, rfl⟩
      have hm2 : pc * ((gBl es k).amt - (gBl es k).paid) = m := by rw [Int.mul_comm]; exact hm
      have hmb : 0 ≤ m ∧ m ≤ 100000000000 := by
        have a1 : 0 ≤ ((gBl es k).amt - (gBl es k).paid) * pc := Int.mul_nonneg (by omega) (by omega)
        have a2 : ((gBl es k).amt - (gBl es k).paid) * pc ≤ ((gBl es k).amt - (gBl es k).paid) * 100 := Int.mul_le_mul_of_nonneg_left hp.2 (by omega)
        omega
      obtain ⟨nn, hnn⟩ : ∃ nn, m.tdiv 100 = nn := ⟨_, rfl⟩
      have hnd : nn = m / 100 := by rw [← hnn]; exact Int.tdiv_eq_ediv_of_nonneg (by omega)
      have P2 := P.yes (n := nn) hp hkl hw (by rw [hm2]; omega) (fun e => by subst e; omega)
      (try (repeat (first | simp (maxSteps := 2000000) (disch := omega) only [go_sem, ↓reduceIte, Nat.reduceEqDiff, Nat.reduceAdd, Nat.reduceMul, Nat.reduceSub, Int.reduceToNat, Int.reduceAdd, Int.reduceSub, Int.reduceMul, Int.reduceNeg, c] | with_reducible refine vIf_t ?_ | with_reducible refine vIf_f ?_)))
      (refine vCallX_of ?_; (repeat (first | simp (maxSteps := 2000000) (disch := omega) only [go_sem, ↓reduceIte, Nat.reduceEqDiff, Nat.reduceAdd, Nat.reduceMul, Nat.reduceSub, Int.reduceToNat, Int.reduceAdd, Int.reduceSub, Int.reduceMul, Int.reduceNeg] | with_reducible refine vIf_t ?_ | with_reducible refine vIf_f ?_)); refine vCall_eq (hop) (by simp (disch := omega) only [go_sem, Nat.reduceAdd]) rfl (by first | exact Or.inl rfl | exact Or.inr ⟨rfl, rfl⟩ | (apply Or.inr; simp only [go_sem])) ?_; (repeat (first | simp (maxSteps := 2000000) (disch := omega) only [go_sem, ↓reduceIte, Nat.reduceEqDiff, Nat.reduceAdd, Nat.reduceMul, Nat.reduceSub, Int.reduceToNat, Int.reduceAdd, Int.reduceSub, Int.reduceMul, Int.reduceNeg] | with_reducible refine vIf_t ?_ | with_reducible refine vIf_f ?_)))
      (try (repeat (first | simp (maxSteps := 2000000) (disch := omega) only [go_sem, ↓reduceIte, Nat.reduceEqDiff, Nat.reduceAdd, Nat.reduceMul, Nat.reduceSub, Int.reduceToNat, Int.reduceAdd, Int.reduceSub, Int.reduceMul, Int.reduceNeg, hm] | with_reducible refine vIf_t ?_ | with_reducible refine vIf_f ?_)))
      (try (repeat (first | simp (maxSteps := 2000000) (disch := omega) only [go_sem, ↓reduceIte, Nat.reduceEqDiff, Nat.reduceAdd, Nat.reduceMul, Nat.reduceSub, Int.reduceToNat, Int.reduceAdd, Int.reduceSub, Int.reduceMul, Int.reduceNeg, hnn] | with_reducible refine vIf_t ?_ | with_reducible refine vIf_f ?_)))
      refine againF (k + 1, es.set k { gBl es k with amt := (gBl es k).amt - nn }, t + nn) ⟨by simp only; omega, P2⟩ (by simp only; omega) (by (first | (refine leF_s ?_; ((repeat (first | simp (maxSteps := 2000000) (disch := omega) only [go_sem, ↓reduceIte, Nat.reduceEqDiff, Nat.reduceAdd, Nat.reduceMul, Nat.reduceSub, Int.reduceToNat, Int.reduceAdd, Int.reduceSub, Int.reduceMul, Int.reduceNeg] | with_reducible refine vIf_t ?_ | with_reducible refine vIf_f ?_)); all_goals (try simp); all_goals (try omega)); done) | (refine leF_p ?_; ((repeat (first | simp (maxSteps := 2000000) (disch := omega) only [go_sem, ↓reduceIte, Nat.reduceEqDiff, Nat.reduceAdd, Nat.reduceMul, Nat.reduceSub, Int.reduceToNat, Int.reduceAdd, Int.reduceSub, Int.reduceMul, Int.reduceNeg] | with_reducible refine vIf_t ?_ | with_reducible refine vIf_f ?_)); all_goals (try simp); all_goals (try omega)); done)))
    · have c : ((gBl es k).owner == w) = false := by simpa using hw
      (try (repeat (first | simp (maxSteps := 2000000) (disch := omega) only [go_sem, ↓reduceIte, Nat.reduceEqDiff, Nat.reduceAdd, Nat.reduceMul, Nat.reduceSub, Int.reduceToNat, Int.reduceAdd, Int.reduceSub, Int.reduceMul, Int.reduceNeg, c] | with_reducible refine vIf_t ?_ | with_reducible refine vIf_f ?_)))
      exact againF (k + 1, es, t) ⟨by simp only; omega, P.no hw⟩ (by simp only; omega) (by (first | (refine leF_s ?_; ((repeat (first | simp (maxSteps := 2000000) (disch := omega) only [go_sem, ↓reduceIte, Nat.reduceEqDiff, Nat.reduceAdd, Nat.reduceMul, Nat.reduceSub, Int.reduceToNat, Int.reduceAdd, Int.reduceSub, Int.reduceMul, Int.reduceNeg] | with_reducible refine vIf_t ?_ | with_reducible refine vIf_f ?_)); all_goals (try simp); all_goals (try omega)); done) | (refine leF_p ?_; ((repeat (first | simp (maxSteps := 2000000) (disch := omega) only [go_sem, ↓reduceIte, Nat.reduceEqDiff, Nat.reduceAdd, Nat.reduceMul, Nat.reduceSub, Int.reduceToNat, Int.reduceAdd, Int.reduceSub, Int.reduceMul, Int.reduceNeg] | with_reducible refine vIf_t ?_ | with_reducible refine vIf_f ?_)); all_goals (try simp); all_goals (try omega)); done)))
  · (repeat (first | simp (maxSteps := 2000000) (disch := omega) only [go_sem, ↓reduceIte, Nat.reduceEqDiff, Nat.reduceAdd, Nat.reduceMul, Nat.reduceSub, Int.reduceToNat, Int.reduceAdd, Int.reduceSub, Int.reduceMul, Int.reduceNeg] | with_reducible refine vIf_t ?_ | with_reducible refine vIf_f ?_))
    rw [show k = ds.length by omega] at P
    refine retK_frz (.step 0 ⟨4, cBl es⟩ rfl (by (repeat (first | simp (maxSteps := 2000000) (disch := omega) only [go_sem, ↓reduceIte, Nat.reduceEqDiff, Nat.reduceAdd, Nat.reduceMul, Nat.reduceSub, Int.reduceToNat, Int.reduceAdd, Int.reduceSub, Int.reduceMul, Int.reduceNeg] | with_reducible refine vIf_t ?_ | with_reducible refine vIf_f ?_))) (.refl _)) ?_
    (repeat (first | simp (maxSteps := 2000000) (disch := omega) only [go_sem, ↓reduceIte, Nat.reduceEqDiff, Nat.reduceAdd, Nat.reduceMul, Nat.reduceSub, Int.reduceToNat, Int.reduceAdd, Int.reduceSub, Int.reduceMul, Int.reduceNeg] | with_reducible refine vIf_t ?_ | with_reducible refine vIf_f ?_))
    exact ⟨es, t, rfl, P⟩
end Go.Proofs.YtneokdflhleidaaDoor

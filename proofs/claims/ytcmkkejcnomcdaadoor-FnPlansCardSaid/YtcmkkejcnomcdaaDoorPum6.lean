/- pumping plans: the model's latest plan, least capacities, walked -/
import Derived.Test.YtcmkkejcnomcdaaDoorPum5
set_option linter.unusedVariables false
set_option linter.unusedSimpArgs false
namespace Go.Proofs.YtcmkkejcnomcdaaDoor
open Go.AG

attribute [local go_sem] beq_self_eq_true bne_self_eq_false Bool.not_true Bool.not_false tk_rep
theorem tpL_bd {hi cap : Int} (hc : 0 ≤ cap) : ∀ l : List Int, (∀ x ∈ l, 0 ≤ x ∧ x ≤ 40) → hi - 40 * (l.length : Int) ≤ tpL hi cap l ∧ tpL hi cap l ≤ hi
  | [], _ => by simp [tpL]
  | i :: r, h => by
    have h1 := h i (by simp)
    have h2 := tpL_bd (hi := hi) hc r (fun x hx => h x (by simp [hx]))
    simp only [tpL, List.length_cons]
    split <;> omega
/-- the tops of the last hours -/
def tpP (p : Pm) (c : Int) (q : Nat) : List Int := List.replicate q 0 ++ (List.range' q (p.inf.length + 1 - q)).map fun i => tpL p.hi c (p.inf.drop i)
theorem tpP_len (p : Pm) (c : Int) (q : Nat) (hq : q ≤ p.inf.length + 1) : (tpP p c q).length = p.inf.length + 1 := by simp [tpP]; omega
theorem tpP_set (p : Pm) (c : Int) (q : Nat) (hq : q ≤ p.inf.length) : (tpP p c (q + 1)).set q (tpL p.hi c (p.inf.drop q)) = tpP p c q := by
  unfold tpP
  rw [show p.inf.length + 1 - q = (p.inf.length + 1 - (q + 1)) + 1 by omega, List.range'_succ, List.map_cons, List.replicate_succ', List.append_assoc, List.set_append_right _ _ (by simp)]
  simp
theorem gi_tpP (p : Pm) (c : Int) (q i : Nat) (h1 : q ≤ i) (h2 : i ≤ p.inf.length) : gi (tpP p c q) i = tpL p.hi c (p.inf.drop i) := by
  have hl : i < (tpP p c q).length := by rw [tpP_len p c q (by omega)]; omega
  rw [gi_lt _ _ hl]
  simp only [tpP]
  rw [List.getElem_append_right (by simp; omega)]
  simp
  rw [show q + (i - q) = i by omega]
theorem tpP_last (p : Pm) (c : Int) : tpP p c (p.inf.length + 1) = List.replicate (p.inf.length + 1) 0 := by simp [tpP]
theorem tpL_step (p : Pm) (c : Int) (q : Nat) (hq : q < p.inf.length) : tpL p.hi c (p.inf.drop q) = if p.hi < tpL p.hi c (p.inf.drop (q + 1)) + c - gi p.inf q then p.hi else tpL p.hi c (p.inf.drop (q + 1)) + c - gi p.inf q := by
  rw [drop_gi p.inf q hq]; rfl
set_option maxHeartbeats 1000000 in
theorem l15Tops_ok (p : Pm) (f : PmF p) (c : Int) (hc : 0 ≤ c ∧ c ≤ 40) : ACalls Tryd.prog 136 [.ip (pmC p) 0, I c] [] (fun r o => r = .ref 0 0 (p.inf.length + 1) ∧ o = [oI (tpP p c 0)]) := by
  refine ACalls.of_vc Tryd.func136 rfl (by decide) 53 rfl [.tmp 4] rfl (by simp) ?_
  have n := f.n
  have ha := f.a
  have hbb := f.b
  have hcc := f.c
  have hd := f.d
  have hset := tpP_set p c p.inf.length (Nat.le_refl _)
  rw [tpP_last, List.drop_length] at hset
  have hset : (List.replicate (p.inf.length + 1) (0 : Int)).set p.inf.length p.hi = tpP p c p.inf.length := hset
  have hw : wr (List.replicate (p.inf.length + 1) (0 : Int)) p.inf.length [p.hi] = tpP p c p.inf.length := by rw [wr_set _ _ _ (by simp)]; exact hset
  unfold pmC iS
  (repeat (first | simp (maxSteps := 2000000) (disch := omega) only [go_sem, ↓reduceIte, Nat.reduceEqDiff, Nat.reduceAdd, Nat.reduceMul, Nat.reduceSub, Int.reduceToNat, Int.reduceAdd, Int.reduceSub, Int.reduceMul, Int.reduceNeg, hw] | with_reducible refine vIf_t ?_ | with_reducible refine vIf_f ?_))
  refine vcLoop_invF (fun h : Nat => h ≤ p.inf.length) (fun h => ⟨53, 0, [(7, I ((h : Int) - 1)), (0, .ip (pmC p) 0), (1, I c), (6, .ref 0 0 (p.inf.length + 1))], [oI (tpP p c h)]⟩) (fun h => h) p.inf.length (by omega) (by unfold pmC iS; (first | (refine leF_s ?_; ((repeat (first | simp (maxSteps := 2000000) (disch := omega) only [go_sem, ↓reduceIte, Nat.reduceEqDiff, Nat.reduceAdd, Nat.reduceMul, Nat.reduceSub, Int.reduceToNat, Int.reduceAdd, Int.reduceSub, Int.reduceMul, Int.reduceNeg] | with_reducible refine vIf_t ?_ | with_reducible refine vIf_f ?_)); all_goals (try simp); all_goals (try omega)); done) | (refine leF_p ?_; ((repeat (first | simp (maxSteps := 2000000) (disch := omega) only [go_sem, ↓reduceIte, Nat.reduceEqDiff, Nat.reduceAdd, Nat.reduceMul, Nat.reduceSub, Int.reduceToNat, Int.reduceAdd, Int.reduceSub, Int.reduceMul, Int.reduceNeg] | with_reducible refine vIf_t ?_ | with_reducible refine vIf_f ?_)); all_goals (try simp); all_goals (try omega)); done))) ?_
  intro h hh
  have hln := tpP_len p c h (by omega)
  by_cases h0 : h = 0
  · subst h0
    generalize tpP p c 0 = tp at *
    unfold pmC iS
    (repeat (first | simp (maxSteps := 2000000) (disch := omega) only [go_sem, ↓reduceIte, Nat.reduceEqDiff, Nat.reduceAdd, Nat.reduceMul, Nat.reduceSub, Int.reduceToNat, Int.reduceAdd, Int.reduceSub, Int.reduceMul, Int.reduceNeg] | with_reducible refine vIf_t ?_ | with_reducible refine vIf_f ?_))
    (refine retK_of ?_; (repeat (first | simp (maxSteps := 2000000) (disch := omega) only [go_sem, ↓reduceIte, Nat.reduceEqDiff, Nat.reduceAdd, Nat.reduceMul, Nat.reduceSub, Int.reduceToNat, Int.reduceAdd, Int.reduceSub, Int.reduceMul, Int.reduceNeg] | with_reducible refine vIf_t ?_ | with_reducible refine vIf_f ?_)))
  obtain ⟨q, rfl⟩ : ∃ q, h = q + 1 := ⟨h - 1, by omega⟩
  have eq1 : (((q + 1 : Nat) : Int)) - 1 = (q : Int) := by omega
  have hs := tpL_step p c q (by omega)
  have hst := tpP_set p c q (by omega)
  have hg := gi_tpP p c (q + 1) (q + 1) (Nat.le_refl _) hh
  have htb := tpL_bd (hi := p.hi) hc.1 (p.inf.drop (q + 1)) (fun x hx => f.inf0 x (List.mem_of_mem_drop hx))
  rw [List.length_drop] at htb
  have hinf := f.infg q (by omega)
  have hmin := bMin_ok p.hi (tpL p.hi c (p.inf.drop (q + 1)) + c - gi p.inf q)
  rw [← hs] at hmin
  have hql : q < p.inf.length := by omega
  unfold pmC iS
  simp only [eq1]
  (repeat (first | simp (maxSteps := 2000000) (disch := omega) only [go_sem, ↓reduceIte, Nat.reduceEqDiff, Nat.reduceAdd, Nat.reduceMul, Nat.reduceSub, Int.reduceToNat, Int.reduceAdd, Int.reduceSub, Int.reduceMul, Int.reduceNeg] | with_reducible refine vIf_t ?_ | with_reducible refine vIf_f ?_))
  (refine vDraw_sch 22 [(0, false), (1, false), (2, false), (3, false), (4, false), (6, false), (7, false), (8, false), (9, false), (11, false), (13, false), (14, false), (15, false), (17, false), (5, false), (10, false), (12, false), (16, true), (18, false), (19, true), (20, false), (21, false)] mixed (by kernel_rfl) ?_; simp only [List.cons_append, List.nil_append, List.map_cons, List.map_nil, nthO_zero, nthO_succ, List.drop_succ_cons, List.drop_zero, List.drop_nil]; (repeat (first | simp (maxSteps := 2000000) (disch := omega) only [go_sem, ↓reduceIte, Nat.reduceEqDiff, Nat.reduceAdd, Nat.reduceMul, Nat.reduceSub, Int.reduceToNat, Int.reduceAdd, Int.reduceSub, Int.reduceMul, Int.reduceNeg] | with_reducible refine vIf_t ?_ | with_reducible refine vIf_f ?_)))
  (repeat (first | simp (maxSteps := 2000000) (disch := omega) only [go_sem, ↓reduceIte, Nat.reduceEqDiff, Nat.reduceAdd, Nat.reduceMul, Nat.reduceSub, Int.reduceToNat, Int.reduceAdd, Int.reduceSub, Int.reduceMul, Int.reduceNeg, hg] | with_reducible refine vIf_t ?_ | with_reducible refine vIf_f ?_))
  (refine vsCallX_of ?_; (try (repeat (first | simp (maxSteps := 2000000) (disch := omega) only [go_sem, ↓reduceIte, Nat.reduceEqDiff, Nat.reduceAdd, Nat.reduceMul, Nat.reduceSub, Int.reduceToNat, Int.reduceAdd, Int.reduceSub, Int.reduceMul, Int.reduceNeg] | with_reducible refine vIf_t ?_ | with_reducible refine vIf_f ?_))); refine vCall_eq (hmin) (by simp (disch := omega) only [go_sem, Nat.reduceAdd]) rfl (by first | exact Or.inl rfl | exact Or.inr ⟨rfl, rfl⟩ | (apply Or.inr; simp only [go_sem])) ?_; (try (repeat (first | simp (maxSteps := 2000000) (disch := omega) only [go_sem, ↓reduceIte, Nat.reduceEqDiff, Nat.reduceAdd, Nat.reduceMul, Nat.reduceSub, Int.reduceToNat, Int.reduceAdd, Int.reduceSub, Int.reduceMul, Int.reduceNeg] | with_reducible refine vIf_t ?_ | with_reducible refine vIf_f ?_))))
  (repeat (first | simp (maxSteps := 2000000) (disch := omega) only [go_sem, ↓reduceIte, Nat.reduceEqDiff, Nat.reduceAdd, Nat.reduceMul, Nat.reduceSub, Int.reduceToNat, Int.reduceAdd, Int.reduceSub, Int.reduceMul, Int.reduceNeg] | with_reducible refine vIf_t ?_ | with_reducible refine vIf_f ?_))
  refine againF q (by omega) (by omega) (by rw [← hst]; (first | (refine leF_s ?_; ((repeat (first | simp (maxSteps := 2000000) (disch := omega) only [go_sem, ↓reduceIte, Nat.reduceEqDiff, Nat.reduceAdd, Nat.reduceMul, Nat.reduceSub, Int.reduceToNat, Int.reduceAdd, Int.reduceSub, Int.reduceMul, Int.reduceNeg] | with_reducible refine vIf_t ?_ | with_reducible refine vIf_f ?_)); all_goals (try simp); all_goals (try omega)); done) | (refine leF_p ?_; ((repeat (first | simp (maxSteps := 2000000) (disch := omega) only [go_sem, ↓reduceIte, Nat.reduceEqDiff, Nat.reduceAdd, Nat.reduceMul, Nat.reduceSub, Int.reduceToNat, Int.reduceAdd, Int.reduceSub, Int.reduceMul, Int.reduceNeg] | with_reducible refine vIf_t ?_ | with_reducible refine vIf_f ?_)); all_goals (try simp); all_goals (try omega)); done)))
def latV (p : Pm) : V := if feB p = true then .tup [iS (latL p.hi p.cap p.inf p.st), B true] else .tup [.sl 0 [], B false]
set_option maxRecDepth 100000 in
set_option maxHeartbeats 4000000 in
theorem l15Latest_ok (p : Pm) (f : PmF p) : ACalls Tryd.prog 116 [.ip (pmC p) 0] [] (fun r o => (feB p = true ∧ r = .tup [.ref 0 0 (latL p.hi p.cap p.inf p.st).length, B true] ∧ o = [oI (latL p.hi p.cap p.inf p.st)]) ∨ (feB p = false ∧ r = .tup [nilS, B false] ∧ o = [])) := by
  refine ACalls.of_vc Tryd.func116 rfl (by decide) 85 rfl [.tmp 2, .tmp 3] rfl (by simp) ?_
  have n := f.n
  have ha := f.a
  have hbb := f.b
  have hcc := f.c
  have hd := f.d
  have he := f.e
  have htp := l15Tops_ok p f p.cap f.e
  have hln := tpP_len p p.cap 0 (by omega)
  have hgt := gi_tpP p p.cap 0
  have hg0 := hgt 0 (by omega) (by omega)
  rw [List.drop_zero] at hg0
  have hfe := feB_top f
  have hno : ¬ (p.st ≤ tpL p.hi p.cap p.inf ∧ GoodT p.lo p.hi p.cap p.inf) → feB p = false := fun h => by
    cases e : feB p with
    | false => rfl
    | true => exact absurd (hfe.1 e) h
  unfold pmC iS at *
  (repeat (first | simp (maxSteps := 2000000) (disch := omega) only [go_sem, ↓reduceIte, Nat.reduceEqDiff, Nat.reduceAdd, Nat.reduceMul, Nat.reduceSub, Int.reduceToNat, Int.reduceAdd, Int.reduceSub, Int.reduceMul, Int.reduceNeg] | with_reducible refine vIf_t ?_ | with_reducible refine vIf_f ?_))
  (refine vCallX_of ?_; (repeat (first | simp (maxSteps := 2000000) (disch := omega) only [go_sem, ↓reduceIte, Nat.reduceEqDiff, Nat.reduceAdd, Nat.reduceMul, Nat.reduceSub, Int.reduceToNat, Int.reduceAdd, Int.reduceSub, Int.reduceMul, Int.reduceNeg] | with_reducible refine vIf_t ?_ | with_reducible refine vIf_f ?_)); refine vCall_eq (htp) (by simp (disch := omega) only [go_sem, Nat.reduceAdd]) rfl (by first | exact Or.inl rfl | exact Or.inr ⟨rfl, rfl⟩ | (apply Or.inr; simp only [go_sem])) ?_; (repeat (first | simp (maxSteps := 2000000) (disch := omega) only [go_sem, ↓reduceIte, Nat.reduceEqDiff, Nat.reduceAdd, Nat.reduceMul, Nat.reduceSub, Int.reduceToNat, Int.reduceAdd, Int.reduceSub, Int.reduceMul, Int.reduceNeg] | with_reducible refine vIf_t ?_ | with_reducible refine vIf_f ?_)))
  generalize tpP p p.cap 0 = tp at *
  (refine vDraw_sch 7 [(0, false), (1, false), (2, false), (4, false), (5, false), (3, false), (6, true)] mixed (by kernel_rfl) ?_; simp only [List.cons_append, List.nil_append, List.map_cons, List.map_nil, nthO_zero, nthO_succ, List.drop_succ_cons, List.drop_zero, List.drop_nil]; (repeat (first | simp (maxSteps := 2000000) (disch := omega) only [go_sem, ↓reduceIte, Nat.reduceEqDiff, Nat.reduceAdd, Nat.reduceMul, Nat.reduceSub, Int.reduceToNat, Int.reduceAdd, Int.reduceSub, Int.reduceMul, Int.reduceNeg] | with_reducible refine vIf_t ?_ | with_reducible refine vIf_f ?_)))
  (repeat (first | simp (maxSteps := 2000000) (disch := omega) only [go_sem, ↓reduceIte, Nat.reduceEqDiff, Nat.reduceAdd, Nat.reduceMul, Nat.reduceSub, Int.reduceToNat, Int.reduceAdd, Int.reduceSub, Int.reduceMul, Int.reduceNeg, hg0] | with_reducible refine vIf_t ?_ | with_reducible refine vIf_f ?_))
  refine vIf_dec (fun h => ?_) (fun h => ?_)
  · (repeat (first | simp (maxSteps := 2000000) (disch := omega) only [go_sem, ↓reduceIte, Nat.reduceEqDiff, Nat.reduceAdd, Nat.reduceMul, Nat.reduceSub, Int.reduceToNat, Int.reduceAdd, Int.reduceSub, Int.reduceMul, Int.reduceNeg] | with_reducible refine vIf_t ?_ | with_reducible refine vIf_f ?_))
    (refine retK_of ?_; (repeat (first | simp (maxSteps := 2000000) (disch := omega) only [go_sem, ↓reduceIte, Nat.reduceEqDiff, Nat.reduceAdd, Nat.reduceMul, Nat.reduceSub, Int.reduceToNat, Int.reduceAdd, Int.reduceSub, Int.reduceMul, Int.reduceNeg] | with_reducible refine vIf_t ?_ | with_reducible refine vIf_f ?_)))
    exact .inr (hno fun h' => by omega)
  have h := Int.not_lt.1 h
  (repeat (first | simp (maxSteps := 2000000) (disch := omega) only [go_sem, ↓reduceIte, Nat.reduceEqDiff, Nat.reduceAdd, Nat.reduceMul, Nat.reduceSub, Int.reduceToNat, Int.reduceAdd, Int.reduceSub, Int.reduceMul, Int.reduceNeg] | with_reducible refine vIf_t ?_ | with_reducible refine vIf_f ?_))
  refine vcLoop_invF (fun x : Nat × List Int × Int => x.1 ≤ p.inf.length ∧ x.2.1.length = x.1 ∧ (p.lo ≤ x.2.2 ∧ x.2.2 ≤ p.hi) ∧ x.2.2 ≤ tpL p.hi p.cap (p.inf.drop x.1) ∧ (GoodT p.lo p.hi p.cap p.inf ↔ GoodT p.lo p.hi p.cap (p.inf.drop x.1)) ∧ latL p.hi p.cap p.inf p.st = x.2.1 ++ latL p.hi p.cap (p.inf.drop x.1) x.2.2)
    (fun x => ⟨85, 0, [(7, I x.1), (0, .ip (pmC p) 0), (4, .ref 0 0 (p.inf.length + 1)), (5, .ref 1 0 x.2.1.length), (6, I x.2.2)], [oI tp, oI x.2.1]⟩) (fun x => p.inf.length - x.1) (0, [], p.st) ⟨by simp only; omega, rfl, by simp only; omega, h, Iff.rfl, rfl⟩ (by unfold pmC iS; (first | (refine leF_s ?_; ((repeat (first | simp (maxSteps := 2000000) (disch := omega) only [go_sem, ↓reduceIte, Nat.reduceEqDiff, Nat.reduceAdd, Nat.reduceMul, Nat.reduceSub, Int.reduceToNat, Int.reduceAdd, Int.reduceSub, Int.reduceMul, Int.reduceNeg] | with_reducible refine vIf_t ?_ | with_reducible refine vIf_f ?_)); all_goals (try simp); all_goals (try omega)); done) | (refine leF_p ?_; ((repeat (first | simp (maxSteps := 2000000) (disch := omega) only [go_sem, ↓reduceIte, Nat.reduceEqDiff, Nat.reduceAdd, Nat.reduceMul, Nat.reduceSub, Int.reduceToNat, Int.reduceAdd, Int.reduceSub, Int.reduceMul, Int.reduceNeg] | with_reducible refine vIf_t ?_ | with_reducible refine vIf_f ?_)); all_goals (try simp); all_goals (try omega)); done))) ?_
  rintro ⟨k, xs, w⟩ ⟨i1, i2, i3, i4, i5, i6⟩
  simp only at i1 i2 i3 i4 i5 i6
  unfold pmC iS
  (repeat (first | simp (maxSteps := 2000000) (disch := omega) only [go_sem, ↓reduceIte, Nat.reduceEqDiff, Nat.reduceAdd, Nat.reduceMul, Nat.reduceSub, Int.reduceToNat, Int.reduceAdd, Int.reduceSub, Int.reduceMul, Int.reduceNeg] | with_reducible refine vIf_t ?_ | with_reducible refine vIf_f ?_))
  refine vIf_dec (fun h5 => ?_) (fun h5 => ?_)
  rotate_left
  · have ek : k = p.inf.length := by omega
    rw [ek, List.drop_length] at i5 i6
    have hyes : feB p = true := hfe.2 ⟨h, i5.2 trivial⟩
    have i6 : latL p.hi p.cap p.inf p.st = xs := by rw [i6]; simp [latL]
    rw [i6]
    (repeat (first | simp (maxSteps := 2000000) (disch := omega) only [go_sem, ↓reduceIte, Nat.reduceEqDiff, Nat.reduceAdd, Nat.reduceMul, Nat.reduceSub, Int.reduceToNat, Int.reduceAdd, Int.reduceSub, Int.reduceMul, Int.reduceNeg] | with_reducible refine vIf_t ?_ | with_reducible refine vIf_f ?_))
    (refine retK_of ?_; (repeat (first | simp (maxSteps := 2000000) (disch := omega) only [go_sem, ↓reduceIte, Nat.reduceEqDiff, Nat.reduceAdd, Nat.reduceMul, Nat.reduceSub, Int.reduceToNat, Int.reduceAdd, Int.reduceSub, Int.reduceMul, Int.reduceNeg] | with_reducible refine vIf_t ?_ | with_reducible refine vIf_f ?_)))
    exact .inl hyes
  have hkl : k < p.inf.length := by omega
  have hinf := f.infg k hkl
  have hg1 := hgt (k + 1) (by omega) (by omega)
  have hs := tpL_step p p.cap k hkl
  have htb := tpL_bd (hi := p.hi) he.1 (p.inf.drop (k + 1)) (fun x hx => f.inf0 x (List.mem_of_mem_drop hx))
  rw [List.length_drop] at htb
  have hdr := drop_gi p.inf k hkl
  have hlat : latL p.hi p.cap (p.inf.drop k) w = (if w + gi p.inf k - tpL p.hi p.cap (p.inf.drop (k + 1)) < 0 then 0 else w + gi p.inf k - tpL p.hi p.cap (p.inf.drop (k + 1))) :: latL p.hi p.cap (p.inf.drop (k + 1)) (w + gi p.inf k - (if w + gi p.inf k - tpL p.hi p.cap (p.inf.drop (k + 1)) < 0 then 0 else w + gi p.inf k - tpL p.hi p.cap (p.inf.drop (k + 1)))) := by rw [hdr]; rfl
  have hgo : GoodT p.lo p.hi p.cap (p.inf.drop k) ↔ p.lo ≤ tpL p.hi p.cap (p.inf.drop (k + 1)) ∧ GoodT p.lo p.hi p.cap (p.inf.drop (k + 1)) := by rw [hdr]; exact Iff.rfl
  generalize hT : tpL p.hi p.cap (p.inf.drop (k + 1)) = t1 at *
  have hmax := bMax_ok 0 (w + gi p.inf k - t1)
  rw [show (if w + gi p.inf k - t1 < 0 then 0 else w + gi p.inf k - t1) = (if w + gi p.inf k - t1 < (0 : Int) then 0 else w + gi p.inf k - t1) from rfl] at hmax
  obtain ⟨x, hx⟩ : ∃ x, (if w + gi p.inf k - t1 < (0 : Int) then 0 else w + gi p.inf k - t1) = x := ⟨_, rfl⟩
  rw [hx] at hlat hmax
  have hx2 : (w + gi p.inf k ≤ t1 ∧ x = 0) ∨ (t1 < w + gi p.inf k ∧ x = w + gi p.inf k - t1) := by split at hx <;> omega
  (repeat (first | simp (maxSteps := 2000000) (disch := omega) only [go_sem, ↓reduceIte, Nat.reduceEqDiff, Nat.reduceAdd, Nat.reduceMul, Nat.reduceSub, Int.reduceToNat, Int.reduceAdd, Int.reduceSub, Int.reduceMul, Int.reduceNeg] | with_reducible refine vIf_t ?_ | with_reducible refine vIf_f ?_))
  (refine vDraw_sch 14 [(0, false), (1, false), (2, false), (3, false), (5, false), (9, false), (10, false), (11, false), (12, false), (4, false), (6, false), (7, false), (8, false), (13, true)] mixed (by kernel_rfl) ?_; simp only [List.cons_append, List.nil_append, List.map_cons, List.map_nil, nthO_zero, nthO_succ, List.drop_succ_cons, List.drop_zero, List.drop_nil]; (repeat (first | simp (maxSteps := 2000000) (disch := omega) only [go_sem, ↓reduceIte, Nat.reduceEqDiff, Nat.reduceAdd, Nat.reduceMul, Nat.reduceSub, Int.reduceToNat, Int.reduceAdd, Int.reduceSub, Int.reduceMul, Int.reduceNeg] | with_reducible refine vIf_t ?_ | with_reducible refine vIf_f ?_)))
  (repeat (first | simp (maxSteps := 2000000) (disch := omega) only [go_sem, ↓reduceIte, Nat.reduceEqDiff, Nat.reduceAdd, Nat.reduceMul, Nat.reduceSub, Int.reduceToNat, Int.reduceAdd, Int.reduceSub, Int.reduceMul, Int.reduceNeg, hg1] | with_reducible refine vIf_t ?_ | with_reducible refine vIf_f ?_))
  (refine vCallX_of ?_; (repeat (first | simp (maxSteps := 2000000) (disch := omega) only [go_sem, ↓reduceIte, Nat.reduceEqDiff, Nat.reduceAdd, Nat.reduceMul, Nat.reduceSub, Int.reduceToNat, Int.reduceAdd, Int.reduceSub, Int.reduceMul, Int.reduceNeg] | with_reducible refine vIf_t ?_ | with_reducible refine vIf_f ?_)); refine vCall_eq (hmax) (by simp (disch := omega) only [go_sem, Nat.reduceAdd]) rfl (by first | exact Or.inl rfl | exact Or.inr ⟨rfl, rfl⟩ | (apply Or.inr; simp only [go_sem])) ?_; (repeat (first | simp (maxSteps := 2000000) (disch := omega) only [go_sem, ↓reduceIte, Nat.reduceEqDiff, Nat.reduceAdd, Nat.reduceMul, Nat.reduceSub, Int.reduceToNat, Int.reduceAdd, Int.reduceSub, Int.reduceMul, Int.reduceNeg] | with_reducible refine vIf_t ?_ | with_reducible refine vIf_f ?_)))
  (repeat (first | simp (maxSteps := 2000000) (disch := omega) only [go_sem, ↓reduceIte, Nat.reduceEqDiff, Nat.reduceAdd, Nat.reduceMul, Nat.reduceSub, Int.reduceToNat, Int.reduceAdd, Int.reduceSub, Int.reduceMul, Int.reduceNeg] | with_reducible refine vIf_t ?_ | with_reducible refine vIf_f ?_))
  (refine vDraw_sch 15 [(0, false), (1, false), (2, false), (3, false), (5, false), (9, false), (11, false), (12, false), (13, false), (4, false), (6, false), (7, false), (8, false), (10, false), (14, true)] mixed (by kernel_rfl) ?_; simp only [List.cons_append, List.nil_append, List.map_cons, List.map_nil, nthO_zero, nthO_succ, List.drop_succ_cons, List.drop_zero, List.drop_nil]; (repeat (first | simp (maxSteps := 2000000) (disch := omega) only [go_sem, ↓reduceIte, Nat.reduceEqDiff, Nat.reduceAdd, Nat.reduceMul, Nat.reduceSub, Int.reduceToNat, Int.reduceAdd, Int.reduceSub, Int.reduceMul, Int.reduceNeg] | with_reducible refine vIf_t ?_ | with_reducible refine vIf_f ?_)))
  (repeat (first | simp (maxSteps := 2000000) (disch := omega) only [go_sem, ↓reduceIte, Nat.reduceEqDiff, Nat.reduceAdd, Nat.reduceMul, Nat.reduceSub, Int.reduceToNat, Int.reduceAdd, Int.reduceSub, Int.reduceMul, Int.reduceNeg] | with_reducible refine vIf_t ?_ | with_reducible refine vIf_f ?_))
  refine vIf_dec (fun h6 => ?_) (fun h6 => ?_)
  · (repeat (first | simp (maxSteps := 2000000) (disch := omega) only [go_sem, ↓reduceIte, Nat.reduceEqDiff, Nat.reduceAdd, Nat.reduceMul, Nat.reduceSub, Int.reduceToNat, Int.reduceAdd, Int.reduceSub, Int.reduceMul, Int.reduceNeg] | with_reducible refine vIf_t ?_ | with_reducible refine vIf_f ?_))
    (refine retK_of ?_; (repeat (first | simp (maxSteps := 2000000) (disch := omega) only [go_sem, ↓reduceIte, Nat.reduceEqDiff, Nat.reduceAdd, Nat.reduceMul, Nat.reduceSub, Int.reduceToNat, Int.reduceAdd, Int.reduceSub, Int.reduceMul, Int.reduceNeg] | with_reducible refine vIf_t ?_ | with_reducible refine vIf_f ?_)))
    refine .inr (hno fun h' => ?_)
    have := (hgo.1 (i5.1 h'.2)).1
    omega
  · have e9 : w + (gi p.inf k - x) = w + gi p.inf k - x := by omega
    rw [hlat] at i6
    (repeat (first | simp (maxSteps := 2000000) (disch := omega) only [go_sem, ↓reduceIte, Nat.reduceEqDiff, Nat.reduceAdd, Nat.reduceMul, Nat.reduceSub, Int.reduceToNat, Int.reduceAdd, Int.reduceSub, Int.reduceMul, Int.reduceNeg] | with_reducible refine vIf_t ?_ | with_reducible refine vIf_f ?_))
    refine againF (k + 1, xs ++ [x], w + (gi p.inf k - x)) ⟨by simp only; omega, by simp; omega, by simp only; omega, by simp only; rw [hT]; omega, ?_, by rw [i6, e9]; simp⟩ (by simp only; omega) (by (first | (refine leF_s ?_; ((repeat (first | simp (maxSteps := 2000000) (disch := omega) only [go_sem, ↓reduceIte, Nat.reduceEqDiff, Nat.reduceAdd, Nat.reduceMul, Nat.reduceSub, Int.reduceToNat, Int.reduceAdd, Int.reduceSub, Int.reduceMul, Int.reduceNeg] | with_reducible refine vIf_t ?_ | with_reducible refine vIf_f ?_)); all_goals (try simp); all_goals (try omega)); done) | (refine leF_p ?_; ((repeat (first | simp (maxSteps := 2000000) (disch := omega) only [go_sem, ↓reduceIte, Nat.reduceEqDiff, Nat.reduceAdd, Nat.reduceMul, Nat.reduceSub, Int.reduceToNat, Int.reduceAdd, Int.reduceSub, Int.reduceMul, Int.reduceNeg] | with_reducible refine vIf_t ?_ | with_reducible refine vIf_f ?_)); all_goals (try simp); all_goals (try omega)); done)))
    simp only
    rw [i5, hgo]
    exact ⟨fun h => h.2, fun h => ⟨by omega, h⟩⟩
end Go.Proofs.YtcmkkejcnomcdaaDoor

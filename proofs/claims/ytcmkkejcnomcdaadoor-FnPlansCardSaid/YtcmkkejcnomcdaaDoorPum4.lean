/- pumping plans: the table of least prices, walked -/
import Derived.Test.YtcmkkejcnomcdaaDoorPum3
import Derived.Test.YtcmkkejcnomcdaaDoorTbl
import Derived.Test.YtcmkkejcnomcdaaDoorArgs
set_option linter.unusedVariables false
set_option linter.unusedSimpArgs false
namespace Go.Proofs.YtcmkkejcnomcdaaDoor
open Go.AG

attribute [local go_sem] beq_self_eq_true bne_self_eq_false Bool.not_true Bool.not_false
/-- the least price from an hour on with some water -/
def lfT (p : Pm) (P : List Int) (h : Nat) (w : Int) : Int := lfL p.lo p.hi p.cap (p.inf.drop h) (P.drop h) w
theorem gi_drop (xs : List Int) (h i : Nat) : gi (xs.drop h) i = gi xs (h + i) := by simp [gi]
theorem Pr0.drop {P : List Int} (h : Pr0 P) (k : Nat) : Pr0 (P.drop k) := fun i => by rw [gi_drop]; exact h _
theorem lfT_step (p : Pm) (P : List Int) (h : Nat) (hh : h < p.inf.length) (w : Int) : lfT p P h w = lfx p.lo p.hi (lfT p P (h + 1)) (gi p.inf h) (gi P h) w (p.cap + 1).toNat := by
  unfold lfT
  rw [drop_gi p.inf h hh, List.singleton_append, lfL, gi_drop, Nat.add_zero, List.tail_drop]
  rfl
theorem lfT_last (p : Pm) (P : List Int) (w : Int) : lfT p P p.inf.length w = 0 := by
  unfold lfT
  rw [List.drop_length]
  rfl
theorem lfT_bd {p : Pm} (f : PmF p) {P : List Int} (hP : Pr0 P) (h : Nat) (w : Int) : -1 ≤ lfT p P h w ∧ lfT p P h w ≤ 1920000 := by
  have h1 := lfL_bd (lo := p.lo) (hi := p.hi) f.e (p.inf.drop h) (P.drop h) (hP.drop h) w
  have n := f.n
  rw [List.length_drop] at h1
  unfold lfT
  omega
/-- a row of the table, as far as it is filled -/
def rowP (p : Pm) (P : List Int) (h w : Nat) : List Int := (List.range w).map (fun (x : Nat) => lfT p P h x) ++ List.replicate ((p.hi + 1).toNat - w) 0
theorem rowP_zero (p : Pm) (P : List Int) (h : Nat) : rowP p P h 0 = List.replicate (p.hi + 1).toNat 0 := by simp [rowP]
theorem rowP_len (p : Pm) (P : List Int) (h w : Nat) (hw : w ≤ (p.hi + 1).toNat) : (rowP p P h w).length = (p.hi + 1).toNat := by simp [rowP]; omega
theorem rowP_set (p : Pm) (P : List Int) (h w : Nat) (hw : w < (p.hi + 1).toNat) : (rowP p P h w).set w (lfT p P h w) = rowP p P h (w + 1) := by
  unfold rowP
  rw [List.range_succ, List.map_append, show (p.hi + 1).toNat - w = ((p.hi + 1).toNat - (w + 1)) + 1 by omega, List.replicate_succ, List.set_append_right _ _ (by simp)]
  simp
def rowT (p : Pm) (P : List Int) (h : Nat) : List Int := rowP p P h (p.hi + 1).toNat
theorem rowT_len (p : Pm) (P : List Int) (h : Nat) : (rowT p P h).length = (p.hi + 1).toNat := rowP_len p P h _ (Nat.le_refl _)
theorem gi_rowT (p : Pm) (P : List Int) (h w : Nat) (hw : w < (p.hi + 1).toNat) : gi (rowT p P h) w = lfT p P h w := by
  have hl : w < (rowT p P h).length := by rw [rowT_len]; exact hw
  rw [gi_lt _ _ hl]
  simp [rowT, rowP]
theorem rowT_last (p : Pm) (P : List Int) : rowT p P p.inf.length = List.replicate (p.hi + 1).toNat 0 := by
  apply List.ext_getElem
  · rw [rowT_len]; simp
  · intro i h1 h2
    rw [rowT_len] at h1
    have := gi_rowT p P p.inf.length i h1
    rw [lfT_last, gi_lt _ _ (by rw [rowT_len]; exact h1)] at this
    rw [this]; simp
/-- the rows from an hour on -/
def rowsT (p : Pm) (P : List Int) (h : Nat) : List (List Int) := (List.range' h (p.inf.length + 1 - h)).map (rowT p P)
theorem rowsT_len (p : Pm) (P : List Int) (h : Nat) : (rowsT p P h).length = p.inf.length + 1 - h := by simp [rowsT]
theorem rowsT_step (p : Pm) (P : List Int) (h : Nat) (hh : h ≤ p.inf.length) : rowsT p P h = rowT p P h :: rowsT p P (h + 1) := by
  unfold rowsT
  rw [show p.inf.length + 1 - h = (p.inf.length + 1 - (h + 1)) + 1 by omega, List.range'_succ, List.map_cons]
theorem rowsT_last (p : Pm) (P : List Int) : rowsT p P p.inf.length = [rowT p P p.inf.length] := by simp [rowsT]
theorem gr_rowsT (p : Pm) (P : List Int) (i : Nat) (hi : i ≤ p.inf.length) : gr (rowsT p P 0) i = rowT p P i := by
  have h : i < (rowsT p P 0).length := by rw [rowsT_len]; omega
  simp only [gr, List.getD, List.getElem?_eq_getElem h, Option.getD_some]
  simp [rowsT]
theorem gr_rowsT0 (p : Pm) (P : List Int) (h : Nat) (hh : h ≤ p.inf.length) : gr (rowsT p P h) 0 = rowT p P h := by
  rw [rowsT_step p P h hh]; simp [gr]
set_option maxRecDepth 100000 in
set_option maxHeartbeats 8000000 in
theorem leastFrom_ok (p : Pm) (f : PmF p) (P : List Int) (hP : Pr0 P) (hl : P.length = p.inf.length) : ACalls Tryd.prog 133 [.agg (pmC p), iS P] [] (fun r o => r = .sl (p.inf.length + 1) (rws (rowsT p P 0)) ∧ o = []) := by
  refine ACalls.of_vc Tryd.func133 rfl (by decide) 112 rfl [.tmp 4] rfl (by simp) ?_
  have n := f.n
  have ha := f.a
  have hbb := f.b
  have hcc := f.c
  have hd := f.d
  have he := f.e
  have e0 : rws (rowsT p P p.inf.length) = [.sl (p.hi + 1).toNat (ints (List.replicate (p.hi + 1).toNat 0))] := by rw [rowsT_last, rowT_last]; simp [rws, iS]
  unfold pmC iS
  (repeat (first | simp (maxSteps := 2000000) (disch := omega) only [go_sem, ↓reduceIte, Nat.reduceEqDiff, Nat.reduceAdd, Nat.reduceMul, Nat.reduceSub, Int.reduceToNat, Int.reduceAdd, Int.reduceSub, Int.reduceMul, Int.reduceNeg] | with_reducible refine vIf_t ?_ | with_reducible refine vIf_f ?_))
  refine vcLoop_invF (fun h : Nat => h ≤ p.inf.length) (fun h => ⟨112, 0, [(7, I ((h : Int) - 1)), (2, .ptr 0 0), (6, .ref 1 0 (p.inf.length + 1)), (1, .sl P.length (ints P))], [some ⟨6, pmC p⟩, some ⟨1, tbl h (rws (rowsT p P h))⟩]⟩) (fun h => h) p.inf.length (by omega) (by rw [e0]; unfold pmC iS; refine leF_fz 2 ⟨1, ints (List.replicate (p.hi + 1).toNat 0)⟩ rfl (by (repeat (first | simp (maxSteps := 2000000) (disch := omega) only [go_sem, ↓reduceIte, Nat.reduceEqDiff, Nat.reduceAdd, Nat.reduceMul, Nat.reduceSub, Int.reduceToNat, Int.reduceAdd, Int.reduceSub, Int.reduceMul, Int.reduceNeg] | with_reducible refine vIf_t ?_ | with_reducible refine vIf_f ?_))) ?_; (first | (refine leF_s ?_; ((repeat (first | simp (maxSteps := 2000000) (disch := omega) only [go_sem, ↓reduceIte, Nat.reduceEqDiff, Nat.reduceAdd, Nat.reduceMul, Nat.reduceSub, Int.reduceToNat, Int.reduceAdd, Int.reduceSub, Int.reduceMul, Int.reduceNeg] | with_reducible refine vIf_t ?_ | with_reducible refine vIf_f ?_)); all_goals (try simp); all_goals (try omega)); done) | (refine leF_p ?_; ((repeat (first | simp (maxSteps := 2000000) (disch := omega) only [go_sem, ↓reduceIte, Nat.reduceEqDiff, Nat.reduceAdd, Nat.reduceMul, Nat.reduceSub, Int.reduceToNat, Int.reduceAdd, Int.reduceSub, Int.reduceMul, Int.reduceNeg] | with_reducible refine vIf_t ?_ | with_reducible refine vIf_f ?_)); all_goals (try simp); all_goals (try omega)); done))) ?_
  intro h hh
  have rl := rowsT_len p P h
  by_cases h0 : h = 0
  · subst h0
    unfold pmC iS
    (repeat (first | simp (maxSteps := 2000000) (disch := omega) only [go_sem, ↓reduceIte, Nat.reduceEqDiff, Nat.reduceAdd, Nat.reduceMul, Nat.reduceSub, Int.reduceToNat, Int.reduceAdd, Int.reduceSub, Int.reduceMul, Int.reduceNeg] | with_reducible refine vIf_t ?_ | with_reducible refine vIf_f ?_))
    refine retK_fz 0 _ rfl (by (repeat (first | simp (maxSteps := 2000000) (disch := omega) only [go_sem, ↓reduceIte, Nat.reduceEqDiff, Nat.reduceAdd, Nat.reduceMul, Nat.reduceSub, Int.reduceToNat, Int.reduceAdd, Int.reduceSub, Int.reduceMul, Int.reduceNeg] | with_reducible refine vIf_t ?_ | with_reducible refine vIf_f ?_))) ?_
    (repeat (first | simp (maxSteps := 2000000) (disch := omega) only [go_sem, ↓reduceIte, Nat.reduceEqDiff, Nat.reduceAdd, Nat.reduceMul, Nat.reduceSub, Int.reduceToNat, Int.reduceAdd, Int.reduceSub, Int.reduceMul, Int.reduceNeg] | with_reducible refine vIf_t ?_ | with_reducible refine vIf_f ?_))
    refine retK_fz 1 _ rfl (by (repeat (first | simp (maxSteps := 2000000) (disch := omega) only [go_sem, ↓reduceIte, Nat.reduceEqDiff, Nat.reduceAdd, Nat.reduceMul, Nat.reduceSub, Int.reduceToNat, Int.reduceAdd, Int.reduceSub, Int.reduceMul, Int.reduceNeg] | with_reducible refine vIf_t ?_ | with_reducible refine vIf_f ?_))) ?_
    (repeat (first | simp (maxSteps := 2000000) (disch := omega) only [go_sem, ↓reduceIte, Nat.reduceEqDiff, Nat.reduceAdd, Nat.reduceMul, Nat.reduceSub, Int.reduceToNat, Int.reduceAdd, Int.reduceSub, Int.reduceMul, Int.reduceNeg] | with_reducible refine vIf_t ?_ | with_reducible refine vIf_f ?_))
    (refine retK_of ?_; (repeat (first | simp (maxSteps := 2000000) (disch := omega) only [go_sem, ↓reduceIte, Nat.reduceEqDiff, Nat.reduceAdd, Nat.reduceMul, Nat.reduceSub, Int.reduceToNat, Int.reduceAdd, Int.reduceSub, Int.reduceMul, Int.reduceNeg] | with_reducible refine vIf_t ?_ | with_reducible refine vIf_f ?_)))
  obtain ⟨q, rfl⟩ : ∃ q, h = q + 1 := ⟨h - 1, by omega⟩
  have eq1 : (((q + 1 : Nat) : Int)) - 1 = (q : Int) := by omega
  have hs := fun w => lfT_step p P q (by omega) w
  unfold pmC iS
  simp only [eq1]
  (repeat (first | simp (maxSteps := 2000000) (disch := omega) only [go_sem, ↓reduceIte, Nat.reduceEqDiff, Nat.reduceAdd, Nat.reduceMul, Nat.reduceSub, Int.reduceToNat, Int.reduceAdd, Int.reduceSub, Int.reduceMul, Int.reduceNeg] | with_reducible refine vIf_t ?_ | with_reducible refine vIf_f ?_))
  have hH : ((p.hi + 1).toNat : Int) = p.hi + 1 := by omega
  have hH2 : (p.hi + 1).toNat ≤ 301 := by omega
  have hql : q < p.inf.length := by omega
  have hqP : q < P.length := by omega
  have hg := gr_rowsT0 p P (q + 1) hh
  have hgl := rowT_len p P (q + 1)
  have hinf := f.infg q hql
  have hpr := hP q
  refine vcLoop_invF (fun w : Nat => w ≤ (p.hi + 1).toNat) (fun w => ⟨112, 0, [(44, I w), (43, I (p.hi + 1).toNat), (7, I q), (2, .ptr 0 0), (6, .ref 1 0 (p.inf.length + 1)), (1, .sl P.length (ints P))], [some ⟨6, pmC p⟩, some ⟨1, tbl q (.ref 2 0 (p.hi + 1).toNat :: rws (rowsT p P (q + 1)))⟩, oI (rowP p P q w)]⟩) (fun w => (p.hi + 1).toNat - w) 0 (by omega) (by rw [rowP_zero]; unfold pmC iS; (first | (refine leF_s ?_; ((repeat (first | simp (maxSteps := 2000000) (disch := omega) only [go_sem, ↓reduceIte, Nat.reduceEqDiff, Nat.reduceAdd, Nat.reduceMul, Nat.reduceSub, Int.reduceToNat, Int.reduceAdd, Int.reduceSub, Int.reduceMul, Int.reduceNeg] | with_reducible refine vIf_t ?_ | with_reducible refine vIf_f ?_)); all_goals (try simp); all_goals (try omega)); done) | (refine leF_p ?_; ((repeat (first | simp (maxSteps := 2000000) (disch := omega) only [go_sem, ↓reduceIte, Nat.reduceEqDiff, Nat.reduceAdd, Nat.reduceMul, Nat.reduceSub, Int.reduceToNat, Int.reduceAdd, Int.reduceSub, Int.reduceMul, Int.reduceNeg] | with_reducible refine vIf_t ?_ | with_reducible refine vIf_f ?_)); all_goals (try simp); all_goals (try omega)); done))) ?_
  intro w hw
  have hrl := rowP_len p P q w hw
  have hrs := rowP_set p P q w
  unfold pmC iS
  (repeat (first | simp (maxSteps := 2000000) (disch := omega) only [go_sem, ↓reduceIte, Nat.reduceEqDiff, Nat.reduceAdd, Nat.reduceMul, Nat.reduceSub, Int.reduceToNat, Int.reduceAdd, Int.reduceSub, Int.reduceMul, Int.reduceNeg] | with_reducible refine vIf_t ?_ | with_reducible refine vIf_f ?_))
  refine vIf_dec (fun h => ?_) (fun h => ?_)
  · have hwl : w < (p.hi + 1).toNat := by omega
    have hrs := hrs hwl
    have hs := hs w
    generalize rowP p P q w = row at *
    (repeat (first | simp (maxSteps := 2000000) (disch := omega) only [go_sem, ↓reduceIte, Nat.reduceEqDiff, Nat.reduceAdd, Nat.reduceMul, Nat.reduceSub, Int.reduceToNat, Int.reduceAdd, Int.reduceSub, Int.reduceMul, Int.reduceNeg] | with_reducible refine vIf_t ?_ | with_reducible refine vIf_f ?_))
    refine vcLoop_invF (fun k : Nat => k ≤ (p.cap + 1).toNat) (fun k => ⟨112, 0, [(10, I k), (9, I (lfx p.lo p.hi (lfT p P (q + 1)) (gi p.inf q) (gi P q) w k)), (8, I w), (44, I w), (43, I (p.hi + 1).toNat), (7, I q), (2, .ptr 0 0), (6, .ref 1 0 (p.inf.length + 1)), (1, .sl P.length (ints P))], [some ⟨6, pmC p⟩, some ⟨1, tbl q (.ref 2 0 (p.hi + 1).toNat :: rws (rowsT p P (q + 1)))⟩, oI row]⟩) (fun k => (p.cap + 1).toNat - k) 0 (by omega) (by rw [show lfx p.lo p.hi (lfT p P (q + 1)) (gi p.inf q) (gi P q) w 0 = -1 from rfl]; unfold pmC iS; (first | (refine leF_s ?_; ((repeat (first | simp (maxSteps := 2000000) (disch := omega) only [go_sem, ↓reduceIte, Nat.reduceEqDiff, Nat.reduceAdd, Nat.reduceMul, Nat.reduceSub, Int.reduceToNat, Int.reduceAdd, Int.reduceSub, Int.reduceMul, Int.reduceNeg] | with_reducible refine vIf_t ?_ | with_reducible refine vIf_f ?_)); all_goals (try simp); all_goals (try omega)); done) | (refine leF_p ?_; ((repeat (first | simp (maxSteps := 2000000) (disch := omega) only [go_sem, ↓reduceIte, Nat.reduceEqDiff, Nat.reduceAdd, Nat.reduceMul, Nat.reduceSub, Int.reduceToNat, Int.reduceAdd, Int.reduceSub, Int.reduceMul, Int.reduceNeg] | with_reducible refine vIf_t ?_ | with_reducible refine vIf_f ?_)); all_goals (try simp); all_goals (try omega)); done))) ?_
    intro k hk
    have hlb := lfx_bd (lo := p.lo) (hi := p.hi) (f := lfT p P (q + 1)) (i := gi p.inf q) (w := w) hpr (lfT_bd f hP (q + 1)) (by omega) k (by omega)
    have hls : lfx p.lo p.hi (lfT p P (q + 1)) (gi p.inf q) (gi P q) w (k + 1) = if okx p.lo p.hi (lfT p P (q + 1)) (gi p.inf q) w k = true then if lfx p.lo p.hi (lfT p P (q + 1)) (gi p.inf q) (gi P q) w k < 0 ∨ k * gi P q + lfT p P (q + 1) (w + gi p.inf q - k) < lfx p.lo p.hi (lfT p P (q + 1)) (gi p.inf q) (gi P q) w k then k * gi P q + lfT p P (q + 1) (w + gi p.inf q - k) else lfx p.lo p.hi (lfT p P (q + 1)) (gi p.inf q) (gi P q) w k else lfx p.lo p.hi (lfT p P (q + 1)) (gi p.inf q) (gi P q) w k := rfl
    generalize hlow : lfx p.lo p.hi (lfT p P (q + 1)) (gi p.inf q) (gi P q) w k = low at *
    have hin := in_ok ((w : Int) + gi p.inf q - k) p.lo p.hi
    have htb := lfT_bd f hP (q + 1) ((w : Int) + gi p.inf q - k)
    unfold pmC iS
    (repeat (first | simp (maxSteps := 2000000) (disch := omega) only [go_sem, ↓reduceIte, Nat.reduceEqDiff, Nat.reduceAdd, Nat.reduceMul, Nat.reduceSub, Int.reduceToNat, Int.reduceAdd, Int.reduceSub, Int.reduceMul, Int.reduceNeg] | with_reducible refine vIf_t ?_ | with_reducible refine vIf_f ?_))
    by_cases h5 : (k : Int) ≤ p.cap
    · have d5 : decide ((k : Int) ≤ p.cap) = true := decide_eq_true h5
      have h6 : 0 ≤ (k : Int) * gi P q := Int.mul_nonneg (by omega) hpr.1
      have h7 : (k : Int) * gi P q ≤ 40 * 1000 := Int.mul_le_mul (by omega) hpr.2 hpr.1 (by omega)
      (repeat (first | simp (maxSteps := 2000000) (disch := omega) only [go_sem, ↓reduceIte, Nat.reduceEqDiff, Nat.reduceAdd, Nat.reduceMul, Nat.reduceSub, Int.reduceToNat, Int.reduceAdd, Int.reduceSub, Int.reduceMul, Int.reduceNeg, d5] | with_reducible refine vIf_t ?_ | with_reducible refine vIf_f ?_))
      (refine vCallX_of ?_; (repeat (first | simp (maxSteps := 2000000) (disch := omega) only [go_sem, ↓reduceIte, Nat.reduceEqDiff, Nat.reduceAdd, Nat.reduceMul, Nat.reduceSub, Int.reduceToNat, Int.reduceAdd, Int.reduceSub, Int.reduceMul, Int.reduceNeg] | with_reducible refine vIf_t ?_ | with_reducible refine vIf_f ?_)); refine vCall_eq (hin) (by simp (disch := omega) only [go_sem, Nat.reduceAdd]) rfl (by first | exact Or.inl rfl | exact Or.inr ⟨rfl, rfl⟩ | (apply Or.inr; simp only [go_sem])) ?_; (repeat (first | simp (maxSteps := 2000000) (disch := omega) only [go_sem, ↓reduceIte, Nat.reduceEqDiff, Nat.reduceAdd, Nat.reduceMul, Nat.reduceSub, Int.reduceToNat, Int.reduceAdd, Int.reduceSub, Int.reduceMul, Int.reduceNeg] | with_reducible refine vIf_t ?_ | with_reducible refine vIf_f ?_)))
      by_cases c1 : p.lo ≤ (w : Int) + gi p.inf q - k ∧ (w : Int) + gi p.inf q - k ≤ p.hi
      · have d1 : decide (p.lo ≤ (w : Int) + gi p.inf q - k ∧ (w : Int) + gi p.inf q - k ≤ p.hi) = true := decide_eq_true c1
        have hgi := gi_rowT p P (q + 1) ((w : Int) + gi p.inf q - k).toNat (by omega)
        rw [show ((((w : Int) + gi p.inf q - k).toNat : Nat) : Int) = (w : Int) + gi p.inf q - k by omega] at hgi
        (repeat (first | simp (maxSteps := 2000000) (disch := omega) only [go_sem, ↓reduceIte, Nat.reduceEqDiff, Nat.reduceAdd, Nat.reduceMul, Nat.reduceSub, Int.reduceToNat, Int.reduceAdd, Int.reduceSub, Int.reduceMul, Int.reduceNeg, d1, hg, hgi] | with_reducible refine vIf_t ?_ | with_reducible refine vIf_f ?_))
        refine vIf_dec (fun c2 => ?_) (fun c2 => ?_)
        · have ho : okx p.lo p.hi (lfT p P (q + 1)) (gi p.inf q) w k = false := by
            cases e : okx p.lo p.hi (lfT p P (q + 1)) (gi p.inf q) w k with
            | false => rfl
            | true => have := (okx_iff.1 e).2; omega
          rw [ho, if_neg (by decide)] at hls
          (repeat (first | simp (maxSteps := 2000000) (disch := omega) only [go_sem, ↓reduceIte, Nat.reduceEqDiff, Nat.reduceAdd, Nat.reduceMul, Nat.reduceSub, Int.reduceToNat, Int.reduceAdd, Int.reduceSub, Int.reduceMul, Int.reduceNeg] | with_reducible refine vIf_t ?_ | with_reducible refine vIf_f ?_))
          refine againF (k + 1) (by omega) (by omega) (by rw [hls]; (first | (refine leF_s ?_; ((repeat (first | simp (maxSteps := 2000000) (disch := omega) only [go_sem, ↓reduceIte, Nat.reduceEqDiff, Nat.reduceAdd, Nat.reduceMul, Nat.reduceSub, Int.reduceToNat, Int.reduceAdd, Int.reduceSub, Int.reduceMul, Int.reduceNeg] | with_reducible refine vIf_t ?_ | with_reducible refine vIf_f ?_)); all_goals (try simp); all_goals (try omega)); done) | (refine leF_p ?_; ((repeat (first | simp (maxSteps := 2000000) (disch := omega) only [go_sem, ↓reduceIte, Nat.reduceEqDiff, Nat.reduceAdd, Nat.reduceMul, Nat.reduceSub, Int.reduceToNat, Int.reduceAdd, Int.reduceSub, Int.reduceMul, Int.reduceNeg] | with_reducible refine vIf_t ?_ | with_reducible refine vIf_f ?_)); all_goals (try simp); all_goals (try omega)); done)))
        · have ho : okx p.lo p.hi (lfT p P (q + 1)) (gi p.inf q) w k = true := okx_iff.2 ⟨c1, by omega⟩
          rw [ho, if_pos rfl] at hls
          (repeat (first | simp (maxSteps := 2000000) (disch := omega) only [go_sem, ↓reduceIte, Nat.reduceEqDiff, Nat.reduceAdd, Nat.reduceMul, Nat.reduceSub, Int.reduceToNat, Int.reduceAdd, Int.reduceSub, Int.reduceMul, Int.reduceNeg] | with_reducible refine vIf_t ?_ | with_reducible refine vIf_f ?_))
          (refine vDraw_sch 14 [(0, false), (1, false), (2, false), (3, false), (6, false), (7, false), (8, false), (9, false), (11, false), (4, false), (5, false), (10, true), (12, false), (13, true)] mixed (by kernel_rfl) ?_; simp only [List.cons_append, List.nil_append, List.map_cons, List.map_nil, nthO_zero, nthO_succ, List.drop_succ_cons, List.drop_zero, List.drop_nil]; (repeat (first | simp (maxSteps := 2000000) (disch := omega) only [go_sem, ↓reduceIte, Nat.reduceEqDiff, Nat.reduceAdd, Nat.reduceMul, Nat.reduceSub, Int.reduceToNat, Int.reduceAdd, Int.reduceSub, Int.reduceMul, Int.reduceNeg] | with_reducible refine vIf_t ?_ | with_reducible refine vIf_f ?_)))
          (repeat (first | simp (maxSteps := 2000000) (disch := omega) only [go_sem, ↓reduceIte, Nat.reduceEqDiff, Nat.reduceAdd, Nat.reduceMul, Nat.reduceSub, Int.reduceToNat, Int.reduceAdd, Int.reduceSub, Int.reduceMul, Int.reduceNeg, hg, hgi] | with_reducible refine vIf_t ?_ | with_reducible refine vIf_f ?_))
          by_cases c3 : low < 0
          · have d3 : decide (low < 0) = true := decide_eq_true c3
            rw [if_pos (.inl c3)] at hls
            (repeat (first | simp (maxSteps := 2000000) (disch := omega) only [go_sem, ↓reduceIte, Nat.reduceEqDiff, Nat.reduceAdd, Nat.reduceMul, Nat.reduceSub, Int.reduceToNat, Int.reduceAdd, Int.reduceSub, Int.reduceMul, Int.reduceNeg, d3] | with_reducible refine vIf_t ?_ | with_reducible refine vIf_f ?_))
            refine againF (k + 1) (by omega) (by omega) (by rw [hls]; (first | (refine leF_s ?_; ((repeat (first | simp (maxSteps := 2000000) (disch := omega) only [go_sem, ↓reduceIte, Nat.reduceEqDiff, Nat.reduceAdd, Nat.reduceMul, Nat.reduceSub, Int.reduceToNat, Int.reduceAdd, Int.reduceSub, Int.reduceMul, Int.reduceNeg] | with_reducible refine vIf_t ?_ | with_reducible refine vIf_f ?_)); all_goals (try simp); all_goals (try omega)); done) | (refine leF_p ?_; ((repeat (first | simp (maxSteps := 2000000) (disch := omega) only [go_sem, ↓reduceIte, Nat.reduceEqDiff, Nat.reduceAdd, Nat.reduceMul, Nat.reduceSub, Int.reduceToNat, Int.reduceAdd, Int.reduceSub, Int.reduceMul, Int.reduceNeg] | with_reducible refine vIf_t ?_ | with_reducible refine vIf_f ?_)); all_goals (try simp); all_goals (try omega)); done)))
          · have d3 : decide (low < 0) = false := decide_eq_false c3
            (repeat (first | simp (maxSteps := 2000000) (disch := omega) only [go_sem, ↓reduceIte, Nat.reduceEqDiff, Nat.reduceAdd, Nat.reduceMul, Nat.reduceSub, Int.reduceToNat, Int.reduceAdd, Int.reduceSub, Int.reduceMul, Int.reduceNeg, d3] | with_reducible refine vIf_t ?_ | with_reducible refine vIf_f ?_))
            refine vIf_dec (fun c4 => ?_) (fun c4 => ?_)
            · rw [if_pos (.inr c4)] at hls
              (repeat (first | simp (maxSteps := 2000000) (disch := omega) only [go_sem, ↓reduceIte, Nat.reduceEqDiff, Nat.reduceAdd, Nat.reduceMul, Nat.reduceSub, Int.reduceToNat, Int.reduceAdd, Int.reduceSub, Int.reduceMul, Int.reduceNeg] | with_reducible refine vIf_t ?_ | with_reducible refine vIf_f ?_))
              refine againF (k + 1) (by omega) (by omega) (by rw [hls]; (first | (refine leF_s ?_; ((repeat (first | simp (maxSteps := 2000000) (disch := omega) only [go_sem, ↓reduceIte, Nat.reduceEqDiff, Nat.reduceAdd, Nat.reduceMul, Nat.reduceSub, Int.reduceToNat, Int.reduceAdd, Int.reduceSub, Int.reduceMul, Int.reduceNeg] | with_reducible refine vIf_t ?_ | with_reducible refine vIf_f ?_)); all_goals (try simp); all_goals (try omega)); done) | (refine leF_p ?_; ((repeat (first | simp (maxSteps := 2000000) (disch := omega) only [go_sem, ↓reduceIte, Nat.reduceEqDiff, Nat.reduceAdd, Nat.reduceMul, Nat.reduceSub, Int.reduceToNat, Int.reduceAdd, Int.reduceSub, Int.reduceMul, Int.reduceNeg] | with_reducible refine vIf_t ?_ | with_reducible refine vIf_f ?_)); all_goals (try simp); all_goals (try omega)); done)))
            · rw [if_neg (fun h => by omega)] at hls
              (repeat (first | simp (maxSteps := 2000000) (disch := omega) only [go_sem, ↓reduceIte, Nat.reduceEqDiff, Nat.reduceAdd, Nat.reduceMul, Nat.reduceSub, Int.reduceToNat, Int.reduceAdd, Int.reduceSub, Int.reduceMul, Int.reduceNeg] | with_reducible refine vIf_t ?_ | with_reducible refine vIf_f ?_))
              refine againF (k + 1) (by omega) (by omega) (by rw [hls]; (first | (refine leF_s ?_; ((repeat (first | simp (maxSteps := 2000000) (disch := omega) only [go_sem, ↓reduceIte, Nat.reduceEqDiff, Nat.reduceAdd, Nat.reduceMul, Nat.reduceSub, Int.reduceToNat, Int.reduceAdd, Int.reduceSub, Int.reduceMul, Int.reduceNeg] | with_reducible refine vIf_t ?_ | with_reducible refine vIf_f ?_)); all_goals (try simp); all_goals (try omega)); done) | (refine leF_p ?_; ((repeat (first | simp (maxSteps := 2000000) (disch := omega) only [go_sem, ↓reduceIte, Nat.reduceEqDiff, Nat.reduceAdd, Nat.reduceMul, Nat.reduceSub, Int.reduceToNat, Int.reduceAdd, Int.reduceSub, Int.reduceMul, Int.reduceNeg] | with_reducible refine vIf_t ?_ | with_reducible refine vIf_f ?_)); all_goals (try simp); all_goals (try omega)); done)))
      · have d1 : decide (p.lo ≤ (w : Int) + gi p.inf q - k ∧ (w : Int) + gi p.inf q - k ≤ p.hi) = false := decide_eq_false c1
        have ho : okx p.lo p.hi (lfT p P (q + 1)) (gi p.inf q) w k = false := by
          cases e : okx p.lo p.hi (lfT p P (q + 1)) (gi p.inf q) w k with
          | false => rfl
          | true => exact absurd (okx_iff.1 e).1 c1
        rw [ho, if_neg (by decide)] at hls
        (repeat (first | simp (maxSteps := 2000000) (disch := omega) only [go_sem, ↓reduceIte, Nat.reduceEqDiff, Nat.reduceAdd, Nat.reduceMul, Nat.reduceSub, Int.reduceToNat, Int.reduceAdd, Int.reduceSub, Int.reduceMul, Int.reduceNeg, d1] | with_reducible refine vIf_t ?_ | with_reducible refine vIf_f ?_))
        refine againF (k + 1) (by omega) (by omega) (by rw [hls]; (first | (refine leF_s ?_; ((repeat (first | simp (maxSteps := 2000000) (disch := omega) only [go_sem, ↓reduceIte, Nat.reduceEqDiff, Nat.reduceAdd, Nat.reduceMul, Nat.reduceSub, Int.reduceToNat, Int.reduceAdd, Int.reduceSub, Int.reduceMul, Int.reduceNeg] | with_reducible refine vIf_t ?_ | with_reducible refine vIf_f ?_)); all_goals (try simp); all_goals (try omega)); done) | (refine leF_p ?_; ((repeat (first | simp (maxSteps := 2000000) (disch := omega) only [go_sem, ↓reduceIte, Nat.reduceEqDiff, Nat.reduceAdd, Nat.reduceMul, Nat.reduceSub, Int.reduceToNat, Int.reduceAdd, Int.reduceSub, Int.reduceMul, Int.reduceNeg] | with_reducible refine vIf_t ?_ | with_reducible refine vIf_f ?_)); all_goals (try simp); all_goals (try omega)); done)))
    · have d5 : decide ((k : Int) ≤ p.cap) = false := decide_eq_false h5
      have ek : (p.cap + 1).toNat = k := by omega
      rw [ek] at hs
      rw [hlow] at hs
      rw [hs] at hrs
      (repeat (first | simp (maxSteps := 2000000) (disch := omega) only [go_sem, ↓reduceIte, Nat.reduceEqDiff, Nat.reduceAdd, Nat.reduceMul, Nat.reduceSub, Int.reduceToNat, Int.reduceAdd, Int.reduceSub, Int.reduceMul, Int.reduceNeg, d5] | with_reducible refine vIf_t ?_ | with_reducible refine vIf_f ?_))
      refine againF (w + 1) (by omega) (by omega) (by rw [← hrs]; (first | (refine leF_s ?_; ((repeat (first | simp (maxSteps := 2000000) (disch := omega) only [go_sem, ↓reduceIte, Nat.reduceEqDiff, Nat.reduceAdd, Nat.reduceMul, Nat.reduceSub, Int.reduceToNat, Int.reduceAdd, Int.reduceSub, Int.reduceMul, Int.reduceNeg] | with_reducible refine vIf_t ?_ | with_reducible refine vIf_f ?_)); all_goals (try simp); all_goals (try omega)); done) | (refine leF_p ?_; ((repeat (first | simp (maxSteps := 2000000) (disch := omega) only [go_sem, ↓reduceIte, Nat.reduceEqDiff, Nat.reduceAdd, Nat.reduceMul, Nat.reduceSub, Int.reduceToNat, Int.reduceAdd, Int.reduceSub, Int.reduceMul, Int.reduceNeg] | with_reducible refine vIf_t ?_ | with_reducible refine vIf_f ?_)); all_goals (try simp); all_goals (try omega)); done)))
  · have ew : w = (p.hi + 1).toNat := by omega
    have er : rowP p P q (p.hi + 1).toNat = rowT p P q := rfl
    have e2 := rowsT_step p P q (by omega)
    have e3 : rws (rowsT p P q) = .sl (p.hi + 1).toNat (ints (rowT p P q)) :: rws (rowsT p P (q + 1)) := by
      rw [e2, ← rws_cons, rowT_len]
    have hgl2 := rowT_len p P q
    subst ew
    rw [er] at *
    (repeat (first | simp (maxSteps := 2000000) (disch := omega) only [go_sem, ↓reduceIte, Nat.reduceEqDiff, Nat.reduceAdd, Nat.reduceMul, Nat.reduceSub, Int.reduceToNat, Int.reduceAdd, Int.reduceSub, Int.reduceMul, Int.reduceNeg] | with_reducible refine vIf_t ?_ | with_reducible refine vIf_f ?_))
    refine againF q (by omega) (by omega) ?_
    rw [e3]
    refine leF_fz 2 ⟨1, ints (rowT p P q)⟩ rfl (by (repeat (first | simp (maxSteps := 2000000) (disch := omega) only [go_sem, ↓reduceIte, Nat.reduceEqDiff, Nat.reduceAdd, Nat.reduceMul, Nat.reduceSub, Int.reduceToNat, Int.reduceAdd, Int.reduceSub, Int.reduceMul, Int.reduceNeg] | with_reducible refine vIf_t ?_ | with_reducible refine vIf_f ?_))) ?_
    (first | (refine leF_s ?_; ((repeat (first | simp (maxSteps := 2000000) (disch := omega) only [go_sem, ↓reduceIte, Nat.reduceEqDiff, Nat.reduceAdd, Nat.reduceMul, Nat.reduceSub, Int.reduceToNat, Int.reduceAdd, Int.reduceSub, Int.reduceMul, Int.reduceNeg] | with_reducible refine vIf_t ?_ | with_reducible refine vIf_f ?_)); all_goals (try simp); all_goals (try omega)); done) | (refine leF_p ?_; ((repeat (first | simp (maxSteps := 2000000) (disch := omega) only [go_sem, ↓reduceIte, Nat.reduceEqDiff, Nat.reduceAdd, Nat.reduceMul, Nat.reduceSub, Int.reduceToNat, Int.reduceAdd, Int.reduceSub, Int.reduceMul, Int.reduceNeg] | with_reducible refine vIf_t ?_ | with_reducible refine vIf_f ?_)); all_goals (try simp); all_goals (try omega)); done))
theorem FstP_cons {p : Pm} {P : List Int} {h : Nat} (hh : h < p.inf.length) {w x : Int} {ys : List Int} (h1 : 0 ≤ x ∧ x ≤ p.cap) (h2 : okx p.lo p.hi (lfT p P (h + 1)) (gi p.inf h) w x.toNat = true ∧ x * gi P h + lfT p P (h + 1) (w + gi p.inf h - x) = lfT p P h w)
    (h3 : ∀ y : Nat, (y : Int) < x → ¬ (okx p.lo p.hi (lfT p P (h + 1)) (gi p.inf h) w y = true ∧ y * gi P h + lfT p P (h + 1) (w + gi p.inf h - y) = lfT p P h w))
    (h4 : FstP p.lo p.hi p.cap (p.inf.drop (h + 1)) (P.drop (h + 1)) (w + gi p.inf h - x) ys) : FstP p.lo p.hi p.cap (p.inf.drop h) (P.drop h) w (x :: ys) := by
  have e1 := drop_gi p.inf h hh
  rw [List.singleton_append] at e1
  have e2 : lfL p.lo p.hi p.cap (gi p.inf h :: p.inf.drop (h + 1)) (P.drop h) w = lfT p P h w := by unfold lfT; rw [← e1]
  have e3 : (P.drop h).tail = P.drop (h + 1) := List.tail_drop
  have e4 : gi (P.drop h) 0 = gi P h := by rw [gi_drop]; rfl
  have e5 : lfL p.lo p.hi p.cap (p.inf.drop (h + 1)) (P.drop (h + 1)) = lfT p P (h + 1) := rfl
  rw [e1]
  refine ⟨h1, ?_, ?_, ?_⟩
  · rw [e2, e3, e4, e5]; exact h2
  · intro y hy; rw [e2, e3, e4, e5]; exact h3 y hy
  · rw [e3]; exact h4
set_option maxRecDepth 100000 in
set_option maxHeartbeats 8000000 in
theorem leastPlan_ok (p : Pm) (f : PmF p) (P : List Int) (hP : Pr0 P) (hl : P.length = p.inf.length) : ACalls Tryd.prog 105 [.agg (pmC p), iS P] [] (fun r o => ∃ xs : List Int, r = .tup [.ref 0 0 xs.length, I (if 0 ≤ lfT p P 0 p.st then lfT p P 0 p.st else 0), B (decide (0 ≤ lfT p P 0 p.st))] ∧ o = [oI xs] ∧ (0 ≤ lfT p P 0 p.st → FstP p.lo p.hi p.cap p.inf P p.st xs) ∧ (lfT p P 0 p.st < 0 → xs = [])) := by
  refine ACalls.of_vc Tryd.func105 rfl (by decide) 96 rfl [.tmp 4, .tmp 5, .tmp 6] rfl (by simp) ?_
  have n := f.n
  have ha := f.a
  have hbb := f.b
  have hcc := f.c
  have hd := f.d
  have he := f.e
  have hlf := leastFrom_ok p f P hP hl
  have hg0 := gr_rowsT p P 0 (by omega)
  have hgl := fun i => rowT_len p P i
  have hgi := gi_rowT p P 0 p.st.toNat (by omega)
  rw [show ((p.st.toNat : Nat) : Int) = p.st by omega] at hgi
  have hrl := rowsT_len p P 0
  have hgr := gr_rowsT p P
  have hLb := lfT_bd f hP 0 p.st
  unfold pmC iS at *
  (repeat (first | simp (maxSteps := 2000000) (disch := omega) only [go_sem, ↓reduceIte, Nat.reduceEqDiff, Nat.reduceAdd, Nat.reduceMul, Nat.reduceSub, Int.reduceToNat, Int.reduceAdd, Int.reduceSub, Int.reduceMul, Int.reduceNeg] | with_reducible refine vIf_t ?_ | with_reducible refine vIf_f ?_))
  (refine vCallX_of ?_; (repeat (first | simp (maxSteps := 2000000) (disch := omega) only [go_sem, ↓reduceIte, Nat.reduceEqDiff, Nat.reduceAdd, Nat.reduceMul, Nat.reduceSub, Int.reduceToNat, Int.reduceAdd, Int.reduceSub, Int.reduceMul, Int.reduceNeg] | with_reducible refine vIf_t ?_ | with_reducible refine vIf_f ?_)); refine vCall_eq (hlf) (by simp (disch := omega) only [go_sem, Nat.reduceAdd]) rfl (by first | exact Or.inl rfl | exact Or.inr ⟨rfl, rfl⟩ | (apply Or.inr; simp only [go_sem])) ?_; (repeat (first | simp (maxSteps := 2000000) (disch := omega) only [go_sem, ↓reduceIte, Nat.reduceEqDiff, Nat.reduceAdd, Nat.reduceMul, Nat.reduceSub, Int.reduceToNat, Int.reduceAdd, Int.reduceSub, Int.reduceMul, Int.reduceNeg] | with_reducible refine vIf_t ?_ | with_reducible refine vIf_f ?_)))
  generalize rowsT p P 0 = R at *
  (refine vDraw_sch 5 [(0, false), (1, false), (3, false), (2, false), (4, true)] mixed (by kernel_rfl) ?_; simp only [List.cons_append, List.nil_append, List.map_cons, List.map_nil, nthO_zero, nthO_succ, List.drop_succ_cons, List.drop_zero, List.drop_nil]; (repeat (first | simp (maxSteps := 2000000) (disch := omega) only [go_sem, ↓reduceIte, Nat.reduceEqDiff, Nat.reduceAdd, Nat.reduceMul, Nat.reduceSub, Int.reduceToNat, Int.reduceAdd, Int.reduceSub, Int.reduceMul, Int.reduceNeg] | with_reducible refine vIf_t ?_ | with_reducible refine vIf_f ?_)))
  have hg0l := hgl 0
  (repeat (first | simp (maxSteps := 2000000) (disch := omega) only [go_sem, ↓reduceIte, Nat.reduceEqDiff, Nat.reduceAdd, Nat.reduceMul, Nat.reduceSub, Int.reduceToNat, Int.reduceAdd, Int.reduceSub, Int.reduceMul, Int.reduceNeg, hg0, hgi] | with_reducible refine vIf_t ?_ | with_reducible refine vIf_f ?_))
  refine vIf_dec (fun h => ?_) (fun h => ?_)
  · have e1 : (if 0 ≤ lfT p P 0 p.st then lfT p P 0 p.st else 0) = 0 := if_neg (by omega)
    have e2 : decide (0 ≤ lfT p P 0 p.st) = false := decide_eq_false (by omega)
    rw [e1, e2]
    (repeat (first | simp (maxSteps := 2000000) (disch := omega) only [go_sem, ↓reduceIte, Nat.reduceEqDiff, Nat.reduceAdd, Nat.reduceMul, Nat.reduceSub, Int.reduceToNat, Int.reduceAdd, Int.reduceSub, Int.reduceMul, Int.reduceNeg] | with_reducible refine vIf_t ?_ | with_reducible refine vIf_f ?_))
    (refine retK_of ?_; (repeat (first | simp (maxSteps := 2000000) (disch := omega) only [go_sem, ↓reduceIte, Nat.reduceEqDiff, Nat.reduceAdd, Nat.reduceMul, Nat.reduceSub, Int.reduceToNat, Int.reduceAdd, Int.reduceSub, Int.reduceMul, Int.reduceNeg] | with_reducible refine vIf_t ?_ | with_reducible refine vIf_f ?_)))
    exact ⟨[], rfl, rfl, fun h => by omega, fun _ => rfl⟩
  have e1 : (if 0 ≤ lfT p P 0 p.st then lfT p P 0 p.st else 0) = lfT p P 0 p.st := if_pos (by omega)
  have e2 : decide (0 ≤ lfT p P 0 p.st) = true := decide_eq_true (by omega)
  rw [e1, e2]
  (repeat (first | simp (maxSteps := 2000000) (disch := omega) only [go_sem, ↓reduceIte, Nat.reduceEqDiff, Nat.reduceAdd, Nat.reduceMul, Nat.reduceSub, Int.reduceToNat, Int.reduceAdd, Int.reduceSub, Int.reduceMul, Int.reduceNeg] | with_reducible refine vIf_t ?_ | with_reducible refine vIf_f ?_))
  refine vcLoop_invF (fun x : Nat × List Int × Int => x.1 ≤ p.inf.length ∧ x.2.1.length = x.1 ∧ (p.lo ≤ x.2.2 ∧ x.2.2 ≤ p.hi) ∧ 0 ≤ lfT p P x.1 x.2.2 ∧ ∀ ys, FstP p.lo p.hi p.cap (p.inf.drop x.1) (P.drop x.1) x.2.2 ys → FstP p.lo p.hi p.cap p.inf P p.st (x.2.1 ++ ys))
    (fun x => ⟨96, 0, [(34, I x.1), (10, I x.2.2), (2, .ptr 0 0), (9, .ref 1 0 x.2.1.length), (7, .sl (p.inf.length + 1) (rws R)), (1, .sl P.length (ints P)), (32, .sl p.inf.length (ints p.inf)), (33, I p.inf.length), (8, I (lfT p P 0 p.st))], [some ⟨6, pmC p⟩, oI x.2.1]⟩) (fun x => p.inf.length - x.1) (0, [], p.st) ⟨by simp only; omega, rfl, by simp only; omega, by simp only; omega, fun ys h => by simpa using h⟩ (by unfold pmC iS; (first | (refine leF_s ?_; ((repeat (first | simp (maxSteps := 2000000) (disch := omega) only [go_sem, ↓reduceIte, Nat.reduceEqDiff, Nat.reduceAdd, Nat.reduceMul, Nat.reduceSub, Int.reduceToNat, Int.reduceAdd, Int.reduceSub, Int.reduceMul, Int.reduceNeg] | with_reducible refine vIf_t ?_ | with_reducible refine vIf_f ?_)); all_goals (try simp); all_goals (try omega)); done) | (refine leF_p ?_; ((repeat (first | simp (maxSteps := 2000000) (disch := omega) only [go_sem, ↓reduceIte, Nat.reduceEqDiff, Nat.reduceAdd, Nat.reduceMul, Nat.reduceSub, Int.reduceToNat, Int.reduceAdd, Int.reduceSub, Int.reduceMul, Int.reduceNeg] | with_reducible refine vIf_t ?_ | with_reducible refine vIf_f ?_)); all_goals (try simp); all_goals (try omega)); done))) ?_
  rintro ⟨k, xs, w⟩ ⟨i1, i2, i3, i4, i5⟩
  simp only at i1 i2 i3 i4 i5
  unfold pmC iS
  (repeat (first | simp (maxSteps := 2000000) (disch := omega) only [go_sem, ↓reduceIte, Nat.reduceEqDiff, Nat.reduceAdd, Nat.reduceMul, Nat.reduceSub, Int.reduceToNat, Int.reduceAdd, Int.reduceSub, Int.reduceMul, Int.reduceNeg] | with_reducible refine vIf_t ?_ | with_reducible refine vIf_f ?_))
  refine vIf_dec (fun h5 => ?_) (fun h5 => ?_)
  rotate_left
  · have ek : k = p.inf.length := by omega
    have := i5 [] (by rw [ek, List.drop_length]; trivial)
    rw [List.append_nil] at this
    (repeat (first | simp (maxSteps := 2000000) (disch := omega) only [go_sem, ↓reduceIte, Nat.reduceEqDiff, Nat.reduceAdd, Nat.reduceMul, Nat.reduceSub, Int.reduceToNat, Int.reduceAdd, Int.reduceSub, Int.reduceMul, Int.reduceNeg] | with_reducible refine vIf_t ?_ | with_reducible refine vIf_f ?_))
    (refine retK_of ?_; (repeat (first | simp (maxSteps := 2000000) (disch := omega) only [go_sem, ↓reduceIte, Nat.reduceEqDiff, Nat.reduceAdd, Nat.reduceMul, Nat.reduceSub, Int.reduceToNat, Int.reduceAdd, Int.reduceSub, Int.reduceMul, Int.reduceNeg] | with_reducible refine vIf_t ?_ | with_reducible refine vIf_f ?_)))
    exact ⟨xs, rfl, rfl, fun _ => this, fun h => by omega⟩
  have hkl : k < p.inf.length := by omega
  have hkP : k < P.length := by omega
  have hinf := f.infg k hkl
  have hpr := hP k
  have hs := lfT_step p P k hkl w
  obtain ⟨x0, hx0, hx1, hx2⟩ := lfx_ex (lo := p.lo) (hi := p.hi) (f := lfT p P (k + 1)) (i := gi p.inf k) (pr := gi P k) (w := w) hpr.1 (p.cap + 1).toNat (by rw [← hs]; exact i4)
  rw [← hs] at hx2
  have hg1 := hgr k (by omega)
  have hg2 := hgr (k + 1) (by omega)
  have hl1 := hgl k
  have hl2 := hgl (k + 1)
  have hgiw := gi_rowT p P k w.toNat (by omega)
  rw [show ((w.toNat : Nat) : Int) = w by omega] at hgiw
  (repeat (first | simp (maxSteps := 2000000) (disch := omega) only [go_sem, ↓reduceIte, Nat.reduceEqDiff, Nat.reduceAdd, Nat.reduceMul, Nat.reduceSub, Int.reduceToNat, Int.reduceAdd, Int.reduceSub, Int.reduceMul, Int.reduceNeg] | with_reducible refine vIf_t ?_ | with_reducible refine vIf_f ?_))
  refine vcLoop_invF (fun x : Nat => x ≤ x0 ∧ ∀ y : Nat, y < x → ¬ (okx p.lo p.hi (lfT p P (k + 1)) (gi p.inf k) w y = true ∧ y * gi P k + lfT p P (k + 1) (w + gi p.inf k - y) = lfT p P k w))
    (fun x => ⟨96, 0, [(13, I x), (11, I k), (12, I (gi p.inf k)), (34, I k), (10, I w), (2, .ptr 0 0), (9, .ref 1 0 xs.length), (7, .sl (p.inf.length + 1) (rws R)), (1, .sl P.length (ints P)), (32, .sl p.inf.length (ints p.inf)), (33, I p.inf.length), (8, I (lfT p P 0 p.st))], [some ⟨6, pmC p⟩, oI xs]⟩) (fun x => x0 + 1 - x) 0 ⟨by omega, fun y hy => by omega⟩ (by unfold pmC iS; (first | (refine leF_s ?_; ((repeat (first | simp (maxSteps := 2000000) (disch := omega) only [go_sem, ↓reduceIte, Nat.reduceEqDiff, Nat.reduceAdd, Nat.reduceMul, Nat.reduceSub, Int.reduceToNat, Int.reduceAdd, Int.reduceSub, Int.reduceMul, Int.reduceNeg] | with_reducible refine vIf_t ?_ | with_reducible refine vIf_f ?_)); all_goals (try simp); all_goals (try omega)); done) | (refine leF_p ?_; ((repeat (first | simp (maxSteps := 2000000) (disch := omega) only [go_sem, ↓reduceIte, Nat.reduceEqDiff, Nat.reduceAdd, Nat.reduceMul, Nat.reduceSub, Int.reduceToNat, Int.reduceAdd, Int.reduceSub, Int.reduceMul, Int.reduceNeg] | with_reducible refine vIf_t ?_ | with_reducible refine vIf_f ?_)); all_goals (try simp); all_goals (try omega)); done))) ?_
  rintro x ⟨j1, j2⟩
  have hin := in_ok (w + gi p.inf k - x) p.lo p.hi
  have htb := lfT_bd f hP (k + 1) (w + gi p.inf k - x)
  have h6 : 0 ≤ (x : Int) * gi P k := Int.mul_nonneg (by omega) hpr.1
  have h7 : (x : Int) * gi P k ≤ 40 * 1000 := Int.mul_le_mul (by omega) hpr.2 hpr.1 (by omega)
  unfold pmC iS
  (repeat (first | simp (maxSteps := 2000000) (disch := omega) only [go_sem, ↓reduceIte, Nat.reduceEqDiff, Nat.reduceAdd, Nat.reduceMul, Nat.reduceSub, Int.reduceToNat, Int.reduceAdd, Int.reduceSub, Int.reduceMul, Int.reduceNeg] | with_reducible refine vIf_t ?_ | with_reducible refine vIf_f ?_))
  (refine vDraw_sch 40 ([(0, false), (1, false), (3, false), (2, false), (4, true), (5, false), (6, false), (7, false), (8, false), (9, false), (10, false), (11, false), (12, false), (13, false), (14, false), (15, false), (16, false), (17, false), (18, false), (19, false)] ++ [(20, false), (21, false), (22, false), (23, false), (24, false), (25, false), (26, false), (27, false), (28, false), (29, false), (30, false), (31, false), (32, false), (33, false), (34, false), (35, false), (36, false), (37, false), (38, false), (39, false)]) mixed (by kernel_rfl) ?_; simp only [List.cons_append, List.nil_append, List.map_cons, List.map_nil, nthO_zero, nthO_succ, List.drop_succ_cons, List.drop_zero, List.drop_nil]; (repeat (first | simp (maxSteps := 2000000) (disch := omega) only [go_sem, ↓reduceIte, Nat.reduceEqDiff, Nat.reduceAdd, Nat.reduceMul, Nat.reduceSub, Int.reduceToNat, Int.reduceAdd, Int.reduceSub, Int.reduceMul, Int.reduceNeg] | with_reducible refine vIf_t ?_ | with_reducible refine vIf_f ?_)))
  (refine vsCallX_of ?_; (try (repeat (first | simp (maxSteps := 2000000) (disch := omega) only [go_sem, ↓reduceIte, Nat.reduceEqDiff, Nat.reduceAdd, Nat.reduceMul, Nat.reduceSub, Int.reduceToNat, Int.reduceAdd, Int.reduceSub, Int.reduceMul, Int.reduceNeg] | with_reducible refine vIf_t ?_ | with_reducible refine vIf_f ?_))); refine vCall_eq (hin) (by simp (disch := omega) only [go_sem, Nat.reduceAdd]) rfl (by first | exact Or.inl rfl | exact Or.inr ⟨rfl, rfl⟩ | (apply Or.inr; simp only [go_sem])) ?_; (try (repeat (first | simp (maxSteps := 2000000) (disch := omega) only [go_sem, ↓reduceIte, Nat.reduceEqDiff, Nat.reduceAdd, Nat.reduceMul, Nat.reduceSub, Int.reduceToNat, Int.reduceAdd, Int.reduceSub, Int.reduceMul, Int.reduceNeg] | with_reducible refine vIf_t ?_ | with_reducible refine vIf_f ?_))))
  have hnot : (x : Int) < x0 + 1 → ¬ (okx p.lo p.hi (lfT p P (k + 1)) (gi p.inf k) w x = true ∧ x * gi P k + lfT p P (k + 1) (w + gi p.inf k - x) = lfT p P k w) → x + 1 ≤ x0 ∧ ∀ y : Nat, y < x + 1 → ¬ (okx p.lo p.hi (lfT p P (k + 1)) (gi p.inf k) w y = true ∧ y * gi P k + lfT p P (k + 1) (w + gi p.inf k - y) = lfT p P k w) := by
    intro _ hn
    refine ⟨?_, fun y hy => ?_⟩
    · by_cases e : x = x0
      · subst e; exact absurd ⟨hx1, hx2⟩ hn
      · omega
    · by_cases e : y = x
      · subst e; exact hn
      · exact j2 y (by omega)
  by_cases c1 : p.lo ≤ w + gi p.inf k - x ∧ w + gi p.inf k - x ≤ p.hi
  rotate_left
  · have d1 : decide (p.lo ≤ w + gi p.inf k - x ∧ w + gi p.inf k - x ≤ p.hi) = false := decide_eq_false c1
    (repeat (first | simp (maxSteps := 2000000) (disch := omega) only [go_sem, ↓reduceIte, Nat.reduceEqDiff, Nat.reduceAdd, Nat.reduceMul, Nat.reduceSub, Int.reduceToNat, Int.reduceAdd, Int.reduceSub, Int.reduceMul, Int.reduceNeg, d1] | with_reducible refine vIf_t ?_ | with_reducible refine vIf_f ?_))
    refine againF (x + 1) (hnot (by omega) fun h => c1 (okx_iff.1 h.1).1) (by omega) (by (first | (refine leF_s ?_; ((repeat (first | simp (maxSteps := 2000000) (disch := omega) only [go_sem, ↓reduceIte, Nat.reduceEqDiff, Nat.reduceAdd, Nat.reduceMul, Nat.reduceSub, Int.reduceToNat, Int.reduceAdd, Int.reduceSub, Int.reduceMul, Int.reduceNeg] | with_reducible refine vIf_t ?_ | with_reducible refine vIf_f ?_)); all_goals (try simp); all_goals (try omega)); done) | (refine leF_p ?_; ((repeat (first | simp (maxSteps := 2000000) (disch := omega) only [go_sem, ↓reduceIte, Nat.reduceEqDiff, Nat.reduceAdd, Nat.reduceMul, Nat.reduceSub, Int.reduceToNat, Int.reduceAdd, Int.reduceSub, Int.reduceMul, Int.reduceNeg] | with_reducible refine vIf_t ?_ | with_reducible refine vIf_f ?_)); all_goals (try simp); all_goals (try omega)); done)))
  have d1 : decide (p.lo ≤ w + gi p.inf k - x ∧ w + gi p.inf k - x ≤ p.hi) = true := decide_eq_true c1
  have hgi2 := gi_rowT p P (k + 1) (w + gi p.inf k - x).toNat (by omega)
  rw [show (((w + gi p.inf k - x).toNat : Nat) : Int) = w + gi p.inf k - x by omega] at hgi2
  by_cases c2 : 0 ≤ lfT p P (k + 1) (w + gi p.inf k - x)
  rotate_left
  · have d2 : decide (0 ≤ lfT p P (k + 1) (w + gi p.inf k - x)) = false := decide_eq_false c2
    (repeat (first | simp (maxSteps := 2000000) (disch := omega) only [go_sem, ↓reduceIte, Nat.reduceEqDiff, Nat.reduceAdd, Nat.reduceMul, Nat.reduceSub, Int.reduceToNat, Int.reduceAdd, Int.reduceSub, Int.reduceMul, Int.reduceNeg, d1, hg2, hgi2, d2] | with_reducible refine vIf_t ?_ | with_reducible refine vIf_f ?_))
    refine againF (x + 1) (hnot (by omega) fun h => c2 (okx_iff.1 h.1).2) (by omega) (by (first | (refine leF_s ?_; ((repeat (first | simp (maxSteps := 2000000) (disch := omega) only [go_sem, ↓reduceIte, Nat.reduceEqDiff, Nat.reduceAdd, Nat.reduceMul, Nat.reduceSub, Int.reduceToNat, Int.reduceAdd, Int.reduceSub, Int.reduceMul, Int.reduceNeg] | with_reducible refine vIf_t ?_ | with_reducible refine vIf_f ?_)); all_goals (try simp); all_goals (try omega)); done) | (refine leF_p ?_; ((repeat (first | simp (maxSteps := 2000000) (disch := omega) only [go_sem, ↓reduceIte, Nat.reduceEqDiff, Nat.reduceAdd, Nat.reduceMul, Nat.reduceSub, Int.reduceToNat, Int.reduceAdd, Int.reduceSub, Int.reduceMul, Int.reduceNeg] | with_reducible refine vIf_t ?_ | with_reducible refine vIf_f ?_)); all_goals (try simp); all_goals (try omega)); done)))
  have d2 : decide (0 ≤ lfT p P (k + 1) (w + gi p.inf k - x)) = true := decide_eq_true c2
  have hok := okx_iff.2 ⟨c1, c2⟩
  by_cases c3 : x * gi P k + lfT p P (k + 1) (w + gi p.inf k - x) = lfT p P k w
  rotate_left
  · have d3 : (x * gi P k + lfT p P (k + 1) (w + gi p.inf k - x) == lfT p P k w) = false := by simpa using c3
    (repeat (first | simp (maxSteps := 2000000) (disch := omega) only [go_sem, ↓reduceIte, Nat.reduceEqDiff, Nat.reduceAdd, Nat.reduceMul, Nat.reduceSub, Int.reduceToNat, Int.reduceAdd, Int.reduceSub, Int.reduceMul, Int.reduceNeg, d1, hg2, hgi2, d2, hg1, hgiw, d3] | with_reducible refine vIf_t ?_ | with_reducible refine vIf_f ?_))
    refine againF (x + 1) (hnot (by omega) fun h => c3 h.2) (by omega) (by (first | (refine leF_s ?_; ((repeat (first | simp (maxSteps := 2000000) (disch := omega) only [go_sem, ↓reduceIte, Nat.reduceEqDiff, Nat.reduceAdd, Nat.reduceMul, Nat.reduceSub, Int.reduceToNat, Int.reduceAdd, Int.reduceSub, Int.reduceMul, Int.reduceNeg] | with_reducible refine vIf_t ?_ | with_reducible refine vIf_f ?_)); all_goals (try simp); all_goals (try omega)); done) | (refine leF_p ?_; ((repeat (first | simp (maxSteps := 2000000) (disch := omega) only [go_sem, ↓reduceIte, Nat.reduceEqDiff, Nat.reduceAdd, Nat.reduceMul, Nat.reduceSub, Int.reduceToNat, Int.reduceAdd, Int.reduceSub, Int.reduceMul, Int.reduceNeg] | with_reducible refine vIf_t ?_ | with_reducible refine vIf_f ?_)); all_goals (try simp); all_goals (try omega)); done)))
  have d3 : (x * gi P k + lfT p P (k + 1) (w + gi p.inf k - x) == lfT p P k w) = true := by simpa using c3
  (repeat (first | simp (maxSteps := 2000000) (disch := omega) only [go_sem, ↓reduceIte, Nat.reduceEqDiff, Nat.reduceAdd, Nat.reduceMul, Nat.reduceSub, Int.reduceToNat, Int.reduceAdd, Int.reduceSub, Int.reduceMul, Int.reduceNeg, d1, hg2, hgi2, d2, hg1, hgiw, d3] | with_reducible refine vIf_t ?_ | with_reducible refine vIf_f ?_))
  refine againF (k + 1, xs ++ [(x : Int)], w + gi p.inf k - x) ⟨by simp only; omega, by simp; omega, c1, c2, fun ys h => ?_⟩ (by simp only; omega) (by (first | (refine leF_s ?_; ((repeat (first | simp (maxSteps := 2000000) (disch := omega) only [go_sem, ↓reduceIte, Nat.reduceEqDiff, Nat.reduceAdd, Nat.reduceMul, Nat.reduceSub, Int.reduceToNat, Int.reduceAdd, Int.reduceSub, Int.reduceMul, Int.reduceNeg] | with_reducible refine vIf_t ?_ | with_reducible refine vIf_f ?_)); all_goals (try simp); all_goals (try omega)); done) | (refine leF_p ?_; ((repeat (first | simp (maxSteps := 2000000) (disch := omega) only [go_sem, ↓reduceIte, Nat.reduceEqDiff, Nat.reduceAdd, Nat.reduceMul, Nat.reduceSub, Int.reduceToNat, Int.reduceAdd, Int.reduceSub, Int.reduceMul, Int.reduceNeg] | with_reducible refine vIf_t ?_ | with_reducible refine vIf_f ?_)); all_goals (try simp); all_goals (try omega)); done)))
  simp only at h
  have := i5 ((x : Int) :: ys) (FstP_cons hkl (by omega) ⟨by rw [Int.toNat_natCast]; exact hok, c3⟩ (fun y hy => j2 y (by omega)) h)
  simpa using this
end Go.Proofs.YtcmkkejcnomcdaaDoor

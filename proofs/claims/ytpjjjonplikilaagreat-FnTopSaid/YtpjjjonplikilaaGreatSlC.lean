/- parts of the proof of the law, sliced: what it needs of the texts Pum4, Pum5, PumC, Pum7, Parcel, TopW, Land. Conditions: none. -/
import Derived.Test.YtpjjjonplikilaaGreatSlA
import Derived.Test.YtpjjjonplikilaaGreatSlB
import Derived.Test.YtpjjjonplikilaaGreatAgZ
set_option linter.unusedVariables false
set_option linter.unusedSimpArgs false
namespace Go.Proofs.YtpjjjonplikilaaGreat
open Go.AG

attribute [local go_sem] beq_self_eq_true bne_self_eq_false Bool.not_true Bool.not_false
/-- the least price from an hour on with some water -/
def lfT (p : Pm) (P : List Int) (h : Nat) (w : Int) : Int := lfL p.lo p.hi p.cap (p.inf.drop h) (P.drop h) w
theorem gi_drop (xs : List Int) (h i : Nat) : gi (xs.drop h) i = gi xs (h + i) := by simp [gi]
theorem Pr0.drop {P : List Int} (h : Pr0 P) (k : Nat) : Pr0 (P.drop k) := fun i => by rw [gi_drop]; exact h _
theorem lfT_step (p : Pm) (P : List Int) (h : Nat) (hh : h < p.inf.length) (w : Int) : lfT p P h w = lfx p.lo p.hi (lfT p P (h + 1)) (gi p.inf h) (gi P h) w (p.cap + 1).toNat := by
  unfold lfT
  rw [drop_gi p.inf h hh, List.singleton_append, lfL, gi_drop, Nat.add_zero, List.tail_drop]
  rfl
theorem lfT_last (p : Pm) (P : List Int) (w : Int) : lfT p P p.inf.length w = 0 := by
  unfold lfT
  rw [List.drop_length]
  rfl
theorem lfT_bd {p : Pm} (f : PmF p) {P : List Int} (hP : Pr0 P) (h : Nat) (w : Int) : -1 ≤ lfT p P h w ∧ lfT p P h w ≤ 1920000 := by
  have h1 := lfL_bd (lo := p.lo) (hi := p.hi) f.e (p.inf.drop h) (P.drop h) (hP.drop h) w
  have n := f.n
  rw [List.length_drop] at h1
  unfold lfT
  omega
/-- a row of the table, as far as it is filled -/
def rowP (p : Pm) (P : List Int) (h w : Nat) : List Int := (List.range w).map (fun (x : Nat) => lfT p P h x) ++ List.replicate ((p.hi + 1).toNat - w) 0
theorem rowP_zero (p : Pm) (P : List Int) (h : Nat) : rowP p P h 0 = List.replicate (p.hi + 1).toNat 0 := by simp [rowP]
theorem rowP_len (p : Pm) (P : List Int) (h w : Nat) (hw : w ≤ (p.hi + 1).toNat) : (rowP p P h w).length = (p.hi + 1).toNat := by simp [rowP]; omega
theorem rowP_set (p : Pm) (P : List Int) (h w : Nat) (hw : w < (p.hi + 1).toNat) : (rowP p P h w).set w (lfT p P h w) = rowP p P h (w + 1) := by
  unfold rowP
  rw [List.range_succ, List.map_append, show (p.hi + 1).toNat - w = ((p.hi + 1).toNat - (w + 1)) + 1 by omega, List.replicate_succ, List.set_append_right _ _ (by simp)]
  simp
def rowT (p : Pm) (P : List Int) (h : Nat) : List Int := rowP p P h (p.hi + 1).toNat
theorem rowT_len (p : Pm) (P : List Int) (h : Nat) : (rowT p P h).length = (p.hi + 1).toNat := rowP_len p P h _ (Nat.le_refl _)
theorem gi_rowT (p : Pm) (P : List Int) (h w : Nat) (hw : w < (p.hi + 1).toNat) : gi (rowT p P h) w = lfT p P h w := by
  have hl : w < (rowT p P h).length := by rw [rowT_len]; exact hw
  rw [gi_lt _ _ hl]
  simp [rowT, rowP]
theorem rowT_last (p : Pm) (P : List Int) : rowT p P p.inf.length = List.replicate (p.hi + 1).toNat 0 := by
  apply List.ext_getElem
  · rw [rowT_len]; simp
  · intro i h1 h2
    rw [rowT_len] at h1
    have := gi_rowT p P p.inf.length i h1
    rw [lfT_last, gi_lt _ _ (by rw [rowT_len]; exact h1)] at this
    rw [this]; simp
/-- the rows from an hour on -/
def rowsT (p : Pm) (P : List Int) (h : Nat) : List (List Int) := (List.range' h (p.inf.length + 1 - h)).map (rowT p P)
theorem rowsT_len (p : Pm) (P : List Int) (h : Nat) : (rowsT p P h).length = p.inf.length + 1 - h := by simp [rowsT]
theorem rowsT_step (p : Pm) (P : List Int) (h : Nat) (hh : h ≤ p.inf.length) : rowsT p P h = rowT p P h :: rowsT p P (h + 1) := by
  unfold rowsT
  rw [show p.inf.length + 1 - h = (p.inf.length + 1 - (h + 1)) + 1 by omega, List.range'_succ, List.map_cons]
theorem rowsT_last (p : Pm) (P : List Int) : rowsT p P p.inf.length = [rowT p P p.inf.length] := by simp [rowsT]
theorem gr_rowsT (p : Pm) (P : List Int) (i : Nat) (hi : i ≤ p.inf.length) : gr (rowsT p P 0) i = rowT p P i := by
  have h : i < (rowsT p P 0).length := by rw [rowsT_len]; omega
  simp only [gr, List.getD, List.getElem?_eq_getElem h, Option.getD_some]
  simp [rowsT]
theorem gr_rowsT0 (p : Pm) (P : List Int) (h : Nat) (hh : h ≤ p.inf.length) : gr (rowsT p P h) 0 = rowT p P h := by
  rw [rowsT_step p P h hh]; simp [gr]
set_option maxRecDepth 100000 in
set_option maxHeartbeats 8000000 in
theorem leastFrom_ok (p : Pm) (f : PmF p) (P : List Int) (hP : Pr0 P) (hl : P.length = p.inf.length) : ACalls Tryz.prog 106 [.agg (pmC p), iS P] [] (fun r o => r = .sl (p.inf.length + 1) (rws (rowsT p P 0)) ∧ o = []) := by
  refine ACalls.of_vc Tryz.func106 rfl (by decide) 112 rfl [.tmp 4] rfl (by simp) ?_
  have n := f.n
  have ha := f.a
  have hbb := f.b
  have hcc := f.c
  have hd := f.d
  have he := f.e
  have e0 : rws (rowsT p P p.inf.length) = [.sl (p.hi + 1).toNat (ints (List.replicate (p.hi + 1).toNat 0))] := by rw [rowsT_last, rowT_last]; simp [rws, iS]
  unfold pmC iS
  (repeat (first | simp (maxSteps := 2000000) (disch := omega) only [go_sem, ↓reduceIte] | with_reducible refine vIf_t ?_ | with_reducible refine vIf_f ?_))
  refine vcLoop_invF (fun h : Nat => h ≤ p.inf.length) (fun h => ⟨112, 0, [(7, I ((h : Int) - 1)), (2, .ptr 0 0), (6, .ref 1 0 (p.inf.length + 1)), (1, .sl P.length (ints P))], [some ⟨6, pmC p⟩, some ⟨1, tbl h (rws (rowsT p P h))⟩]⟩) (fun h => h) p.inf.length (by omega) (by rw [e0]; unfold pmC iS; refine leF_fz 2 ⟨1, ints (List.replicate (p.hi + 1).toNat 0)⟩ rfl (by (repeat (first | simp (maxSteps := 2000000) (disch := omega) only [go_sem, ↓reduceIte] | with_reducible refine vIf_t ?_ | with_reducible refine vIf_f ?_))) ?_; (first | (refine leF_s ?_; ((repeat (first | simp (maxSteps := 2000000) (disch := omega) only [go_sem, ↓reduceIte] | with_reducible refine vIf_t ?_ | with_reducible refine vIf_f ?_)); all_goals (try simp); all_goals (try omega)); done) | (refine leF_p ?_; ((repeat (first | simp (maxSteps := 2000000) (disch := omega) only [go_sem, ↓reduceIte] | with_reducible refine vIf_t ?_ | with_reducible refine vIf_f ?_)); all_goals (try simp); all_goals (try omega)); done))) ?_
  intro h hh
  have rl := rowsT_len p P h
  by_cases h0 : h = 0
  · subst h0
    unfold pmC iS
    (repeat (first | simp (maxSteps := 2000000) (disch := omega) only [go_sem, ↓reduceIte] | with_reducible refine vIf_t ?_ | with_reducible refine vIf_f ?_))
    refine retK_fz 0 _ rfl (by (repeat (first | simp (maxSteps := 2000000) (disch := omega) only [go_sem, ↓reduceIte] | with_reducible refine vIf_t ?_ | with_reducible refine vIf_f ?_))) ?_
    (repeat (first | simp (maxSteps := 2000000) (disch := omega) only [go_sem, ↓reduceIte] | with_reducible refine vIf_t ?_ | with_reducible refine vIf_f ?_))
    refine retK_fz 1 _ rfl (by (repeat (first | simp (maxSteps := 2000000) (disch := omega) only [go_sem, ↓reduceIte] | with_reducible refine vIf_t ?_ | with_reducible refine vIf_f ?_))) ?_
    (repeat (first | simp (maxSteps := 2000000) (disch := omega) only [go_sem, ↓reduceIte] | with_reducible refine vIf_t ?_ | with_reducible refine vIf_f ?_))
    (refine retK_of ?_; (repeat (first | simp (maxSteps := 2000000) (disch := omega) only [go_sem, ↓reduceIte] | with_reducible refine vIf_t ?_ | with_reducible refine vIf_f ?_)))
  obtain ⟨q, rfl⟩ : ∃ q, h = q + 1 := ⟨h - 1, by omega⟩
  have eq1 : (((q + 1 : Nat) : Int)) - 1 = (q : Int) := by omega
  have hs := fun w => lfT_step p P q (by omega) w
  unfold pmC iS
  simp only [eq1]
  (repeat (first | simp (maxSteps := 2000000) (disch := omega) only [go_sem, ↓reduceIte] | with_reducible refine vIf_t ?_ | with_reducible refine vIf_f ?_))
  have hH : ((p.hi + 1).toNat : Int) = p.hi + 1 := by omega
  have hH2 : (p.hi + 1).toNat ≤ 301 := by omega
  have hql : q < p.inf.length := by omega
  have hqP : q < P.length := by omega
  have hg := gr_rowsT0 p P (q + 1) hh
  have hgl := rowT_len p P (q + 1)
  have hinf := f.infg q hql
  have hpr := hP q
  refine vcLoop_invF (fun w : Nat => w ≤ (p.hi + 1).toNat) (fun w => ⟨112, 0, [(44, I w), (43, I (p.hi + 1).toNat), (7, I q), (2, .ptr 0 0), (6, .ref 1 0 (p.inf.length + 1)), (1, .sl P.length (ints P))], [some ⟨6, pmC p⟩, some ⟨1, tbl q (.ref 2 0 (p.hi + 1).toNat :: rws (rowsT p P (q + 1)))⟩, oI (rowP p P q w)]⟩) (fun w => (p.hi + 1).toNat - w) 0 (by omega) (by rw [rowP_zero]; unfold pmC iS; (first | (refine leF_s ?_; ((repeat (first | simp (maxSteps := 2000000) (disch := omega) only [go_sem, ↓reduceIte] | with_reducible refine vIf_t ?_ | with_reducible refine vIf_f ?_)); all_goals (try simp); all_goals (try omega)); done) | (refine leF_p ?_; ((repeat (first | simp (maxSteps := 2000000) (disch := omega) only [go_sem, ↓reduceIte] | with_reducible refine vIf_t ?_ | with_reducible refine vIf_f ?_)); all_goals (try simp); all_goals (try omega)); done))) ?_
  intro w hw
  have hrl := rowP_len p P q w hw
  have hrs := rowP_set p P q w
  unfold pmC iS
  (repeat (first | simp (maxSteps := 2000000) (disch := omega) only [go_sem, ↓reduceIte] | with_reducible refine vIf_t ?_ | with_reducible refine vIf_f ?_))
  refine vIf_dec (fun h => ?_) (fun h => ?_)
  · have hwl : w < (p.hi + 1).toNat := by omega
    have hrs := hrs hwl
    have hs := hs w
    generalize rowP p P q w = row at *
    (repeat (first | simp (maxSteps := 2000000) (disch := omega) only [go_sem, ↓reduceIte] | with_reducible refine vIf_t ?_ | with_reducible refine vIf_f ?_))
    refine vcLoop_invF (fun k : Nat => k ≤ (p.cap + 1).toNat) (fun k => ⟨112, 0, [(10, I k), (9, I (lfx p.lo p.hi (lfT p P (q + 1)) (gi p.inf q) (gi P q) w k)), (8, I w), (44, I w), (43, I (p.hi + 1).toNat), (7, I q), (2, .ptr 0 0), (6, .ref 1 0 (p.inf.length + 1)), (1, .sl P.length (ints P))], [some ⟨6, pmC p⟩, some ⟨1, tbl q (.ref 2 0 (p.hi + 1).toNat :: rws (rowsT p P (q + 1)))⟩, oI row]⟩) (fun k => (p.cap + 1).toNat - k) 0 (by omega) (by rw [show lfx p.lo p.hi (lfT p P (q + 1)) (gi p.inf q) (gi P q) w 0 = -1 from rfl]; unfold pmC iS; (first | (refine leF_s ?_; ((repeat (first | simp (maxSteps := 2000000) (disch := omega) only [go_sem, ↓reduceIte] | with_reducible refine vIf_t ?_ | with_reducible refine vIf_f ?_)); all_goals (try simp); all_goals (try omega)); done) | (refine leF_p ?_; ((repeat (first | simp (maxSteps := 2000000) (disch := omega) only [go_sem, ↓reduceIte] | with_reducible refine vIf_t ?_ | with_reducible refine vIf_f ?_)); all_goals (try simp); all_goals (try omega)); done))) ?_
    intro k hk
    have hlb := lfx_bd (lo := p.lo) (hi := p.hi) (f := lfT p P (q + 1)) (i := gi p.inf q) (w := w) hpr (lfT_bd f hP (q + 1)) (by omega) k (by omega)
    have hls : lfx p.lo p.hi (lfT p P (q + 1)) (gi p.inf q) (gi P q) w (k + 1) = if okx p.lo p.hi (lfT p P (q + 1)) (gi p.inf q) w k = true then if lfx p.lo p.hi (lfT p P (q + 1)) (gi p.inf q) (gi P q) w k < 0 ∨ k * gi P q + lfT p P (q + 1) (w + gi p.inf q - k) < lfx p.lo p.hi (lfT p P (q + 1)) (gi p.inf q) (gi P q) w k then k * gi P q + lfT p P (q + 1) (w + gi p.inf q - k) else lfx p.lo p.hi (lfT p P (q + 1)) (gi p.inf q) (gi P q) w k else lfx p.lo p.hi (lfT p P (q + 1)) (gi p.inf q) (gi P q) w k := rfl
    generalize hlow : lfx p.lo p.hi (lfT p P (q + 1)) (gi p.inf q) (gi P q) w k = low at *
    have hin := in_ok ((w : Int) + gi p.inf q - k) p.lo p.hi
    have htb := lfT_bd f hP (q + 1) ((w : Int) + gi p.inf q - k)
    unfold pmC iS
    (repeat (first | simp (maxSteps := 2000000) (disch := omega) only [go_sem, ↓reduceIte] | with_reducible refine vIf_t ?_ | with_reducible refine vIf_f ?_))
    by_cases h5 : (k : Int) ≤ p.cap
    · have d5 : decide ((k : Int) ≤ p.cap) = true := decide_eq_true h5
      have h6 : 0 ≤ (k : Int) * gi P q := Int.mul_nonneg (by omega) hpr.1
      have h7 : (k : Int) * gi P q ≤ 40 * 1000 := Int.mul_le_mul (by omega) hpr.2 hpr.1 (by omega)
      (repeat (first | simp (maxSteps := 2000000) (disch := omega) only [go_sem, ↓reduceIte, d5] | with_reducible refine vIf_t ?_ | with_reducible refine vIf_f ?_))
      (refine vCallX_of ?_; (repeat (first | simp (maxSteps := 2000000) (disch := omega) only [go_sem, ↓reduceIte] | with_reducible refine vIf_t ?_ | with_reducible refine vIf_f ?_)); refine vCall_eq (hin) (by simp (disch := omega) only [go_sem]) rfl (by first | exact Or.inl rfl | exact Or.inr ⟨rfl, rfl⟩ | (apply Or.inr; simp only [go_sem])) ?_; (repeat (first | simp (maxSteps := 2000000) (disch := omega) only [go_sem, ↓reduceIte] | with_reducible refine vIf_t ?_ | with_reducible refine vIf_f ?_)))
      by_cases c1 : p.lo ≤ (w : Int) + gi p.inf q - k ∧ (w : Int) + gi p.inf q - k ≤ p.hi
      · have d1 : decide (p.lo ≤ (w : Int) + gi p.inf q - k ∧ (w : Int) + gi p.inf q - k ≤ p.hi) = true := decide_eq_true c1
        have hgi := gi_rowT p P (q + 1) ((w : Int) + gi p.inf q - k).toNat (by omega)
        rw [show ((((w : Int) + gi p.inf q - k).toNat : Nat) : Int) = (w : Int) + gi p.inf q - k by omega] at hgi
        (repeat (first | simp (maxSteps := 2000000) (disch := omega) only [go_sem, ↓reduceIte, d1, hg, hgi] | with_reducible refine vIf_t ?_ | with_reducible refine vIf_f ?_))
        refine vIf_dec (fun c2 => ?_) (fun c2 => ?_)
        · have ho : okx p.lo p.hi (lfT p P (q + 1)) (gi p.inf q) w k = false := by
            cases e : okx p.lo p.hi (lfT p P (q + 1)) (gi p.inf q) w k with
            | false => rfl
            | true => have := (okx_iff.1 e).2; omega
          rw [ho, if_neg (by decide)] at hls
          (repeat (first | simp (maxSteps := 2000000) (disch := omega) only [go_sem, ↓reduceIte] | with_reducible refine vIf_t ?_ | with_reducible refine vIf_f ?_))
          refine againF (k + 1) (by omega) (by omega) (by rw [hls]; (first | (refine leF_s ?_; ((repeat (first | simp (maxSteps := 2000000) (disch := omega) only [go_sem, ↓reduceIte] | with_reducible refine vIf_t ?_ | with_reducible refine vIf_f ?_)); all_goals (try simp); all_goals (try omega)); done) | (refine leF_p ?_; ((repeat (first | simp (maxSteps := 2000000) (disch := omega) only [go_sem, ↓reduceIte] | with_reducible refine vIf_t ?_ | with_reducible refine vIf_f ?_)); all_goals (try simp); all_goals (try omega)); done)))
        · have ho : okx p.lo p.hi (lfT p P (q + 1)) (gi p.inf q) w k = true := okx_iff.2 ⟨c1, by omega⟩
          rw [ho, if_pos rfl] at hls
          (repeat (first | simp (maxSteps := 2000000) (disch := omega) only [go_sem, ↓reduceIte] | with_reducible refine vIf_t ?_ | with_reducible refine vIf_f ?_))
          (refine vDraw_sch 14 [(0, false), (1, false), (2, false), (3, false), (6, false), (7, false), (8, false), (9, false), (11, false), (4, false), (5, false), (10, true), (12, false), (13, true)] mixed (by kernel_rfl) ?_; simp only [List.cons_append, List.nil_append, List.map_cons, List.map_nil, nthO_zero, nthO_succ, List.drop_succ_cons, List.drop_zero, List.drop_nil]; (repeat (first | simp (maxSteps := 2000000) (disch := omega) only [go_sem, ↓reduceIte] | with_reducible refine vIf_t ?_ | with_reducible refine vIf_f ?_)))
          (repeat (first | simp (maxSteps := 2000000) (disch := omega) only [go_sem, ↓reduceIte, hg, hgi] | with_reducible refine vIf_t ?_ | with_reducible refine vIf_f ?_))
          by_cases c3 : low < 0
          · have d3 : decide (low < 0) = true := decide_eq_true c3
            rw [if_pos (.inl c3)] at hls
            (repeat (first | simp (maxSteps := 2000000) (disch := omega) only [go_sem, ↓reduceIte, d3] | with_reducible refine vIf_t ?_ | with_reducible refine vIf_f ?_))
            refine againF (k + 1) (by omega) (by omega) (by rw [hls]; (first | (refine leF_s ?_; ((repeat (first | simp (maxSteps := 2000000) (disch := omega) only [go_sem, ↓reduceIte] | with_reducible refine vIf_t ?_ | with_reducible refine vIf_f ?_)); all_goals (try simp); all_goals (try omega)); done) | (refine leF_p ?_; ((repeat (first | simp (maxSteps := 2000000) (disch := omega) only [go_sem, ↓reduceIte] | with_reducible refine vIf_t ?_ | with_reducible refine vIf_f ?_)); all_goals (try simp); all_goals (try omega)); done)))
          · have d3 : decide (low < 0) = false := decide_eq_false c3
            (repeat (first | simp (maxSteps := 2000000) (disch := omega) only [go_sem, ↓reduceIte, d3] | with_reducible refine vIf_t ?_ | with_reducible refine vIf_f ?_))
            refine vIf_dec (fun c4 => ?_) (fun c4 => ?_)
            · rw [if_pos (.inr c4)] at hls
              (repeat (first | simp (maxSteps := 2000000) (disch := omega) only [go_sem, ↓reduceIte] | with_reducible refine vIf_t ?_ | with_reducible refine vIf_f ?_))
              refine againF (k + 1) (by omega) (by omega) (by rw [hls]; (first | (refine leF_s ?_; ((repeat (first | simp (maxSteps := 2000000) (disch := omega) only [go_sem, ↓reduceIte] | with_reducible refine vIf_t ?_ | with_reducible refine vIf_f ?_)); all_goals (try simp); all_goals (try omega)); done) | (refine leF_p ?_; ((repeat (first | simp (maxSteps := 2000000) (disch := omega) only [go_sem, ↓reduceIte] | with_reducible refine vIf_t ?_ | with_reducible refine vIf_f ?_)); all_goals (try simp); all_goals (try omega)); done)))
            · rw [if_neg (fun h => by omega)] at hls
              (repeat (first | simp (maxSteps := 2000000) (disch := omega) only [go_sem, ↓reduceIte] | with_reducible refine vIf_t ?_ | with_reducible refine vIf_f ?_))
              refine againF (k + 1) (by omega) (by omega) (by rw [hls]; (first | (refine leF_s ?_; ((repeat (first | simp (maxSteps := 2000000) (disch := omega) only [go_sem, ↓reduceIte] | with_reducible refine vIf_t ?_ | with_reducible refine vIf_f ?_)); all_goals (try simp); all_goals (try omega)); done) | (refine leF_p ?_; ((repeat (first | simp (maxSteps := 2000000) (disch := omega) only [go_sem, ↓reduceIte] | with_reducible refine vIf_t ?_ | with_reducible refine vIf_f ?_)); all_goals (try simp); all_goals (try omega)); done)))
      · have d1 : decide (p.lo ≤ (w : Int) + gi p.inf q - k ∧ (w : Int) + gi p.inf q - k ≤ p.hi) = false := decide_eq_false c1
        have ho : okx p.lo p.hi (lfT p P (q + 1)) (gi p.inf q) w k = false := by
          cases e : okx p.lo p.hi (lfT p P (q + 1)) (gi p.inf q) w k with
          | false => rfl
          | true => exact absurd (okx_iff.1 e).1 c1
        rw [ho, if_neg (by decide)] at hls
        (repeat (first | simp (maxSteps := 2000000) (disch := omega) only [go_sem, ↓reduceIte, d1] | with_reducible refine vIf_t ?_ | with_reducible refine vIf_f ?_))
        refine againF (k + 1) (by omega) (by omega) (by rw [hls]; (first | (refine leF_s ?_; ((repeat (first | simp (maxSteps := 2000000) (disch := omega) only [go_sem, ↓reduceIte] | with_reducible refine vIf_t ?_ | with_reducible refine vIf_f ?_)); all_goals (try simp); all_goals (try omega)); done) | (refine leF_p ?_; ((repeat (first | simp (maxSteps := 2000000) (disch := omega) only [go_sem, ↓reduceIte] | with_reducible refine vIf_t ?_ | with_reducible refine vIf_f ?_)); all_goals (try simp); all_goals (try omega)); done)))
    · have d5 : decide ((k : Int) ≤ p.cap) = false := decide_eq_false h5
      have ek : (p.cap + 1).toNat = k := by omega
      rw [ek] at hs
      rw [hlow] at hs
      rw [hs] at hrs
      (repeat (first | simp (maxSteps := 2000000) (disch := omega) only [go_sem, ↓reduceIte, d5] | with_reducible refine vIf_t ?_ | with_reducible refine vIf_f ?_))
      refine againF (w + 1) (by omega) (by omega) (by rw [← hrs]; (first | (refine leF_s ?_; ((repeat (first | simp (maxSteps := 2000000) (disch := omega) only [go_sem, ↓reduceIte] | with_reducible refine vIf_t ?_ | with_reducible refine vIf_f ?_)); all_goals (try simp); all_goals (try omega)); done) | (refine leF_p ?_; ((repeat (first | simp (maxSteps := 2000000) (disch := omega) only [go_sem, ↓reduceIte] | with_reducible refine vIf_t ?_ | with_reducible refine vIf_f ?_)); all_goals (try simp); all_goals (try omega)); done)))
  · have ew : w = (p.hi + 1).toNat := by omega
    have er : rowP p P q (p.hi + 1).toNat = rowT p P q := rfl
    have e2 := rowsT_step p P q (by omega)
    have e3 : rws (rowsT p P q) = .sl (p.hi + 1).toNat (ints (rowT p P q)) :: rws (rowsT p P (q + 1)) := by
      rw [e2, ← rws_cons, rowT_len]
    have hgl2 := rowT_len p P q
    subst ew
    rw [er] at *
    (repeat (first | simp (maxSteps := 2000000) (disch := omega) only [go_sem, ↓reduceIte] | with_reducible refine vIf_t ?_ | with_reducible refine vIf_f ?_))
    refine againF q (by omega) (by omega) ?_
    rw [e3]
    refine leF_fz 2 ⟨1, ints (rowT p P q)⟩ rfl (by (repeat (first | simp (maxSteps := 2000000) (disch := omega) only [go_sem, ↓reduceIte] | with_reducible refine vIf_t ?_ | with_reducible refine vIf_f ?_))) ?_
    (first | (refine leF_s ?_; ((repeat (first | simp (maxSteps := 2000000) (disch := omega) only [go_sem, ↓reduceIte] | with_reducible refine vIf_t ?_ | with_reducible refine vIf_f ?_)); all_goals (try simp); all_goals (try omega)); done) | (refine leF_p ?_; ((repeat (first | simp (maxSteps := 2000000) (disch := omega) only [go_sem, ↓reduceIte] | with_reducible refine vIf_t ?_ | with_reducible refine vIf_f ?_)); all_goals (try simp); all_goals (try omega)); done))
theorem FstP_cons {p : Pm} {P : List Int} {h : Nat} (hh : h < p.inf.length) {w x : Int} {ys : List Int} (h1 : 0 ≤ x ∧ x ≤ p.cap) (h2 : okx p.lo p.hi (lfT p P (h + 1)) (gi p.inf h) w x.toNat = true ∧ x * gi P h + lfT p P (h + 1) (w + gi p.inf h - x) = lfT p P h w)
    (h3 : ∀ y : Nat, (y : Int) < x → ¬ (okx p.lo p.hi (lfT p P (h + 1)) (gi p.inf h) w y = true ∧ y * gi P h + lfT p P (h + 1) (w + gi p.inf h - y) = lfT p P h w))
    (h4 : FstP p.lo p.hi p.cap (p.inf.drop (h + 1)) (P.drop (h + 1)) (w + gi p.inf h - x) ys) : FstP p.lo p.hi p.cap (p.inf.drop h) (P.drop h) w (x :: ys) := by
  have e1 := drop_gi p.inf h hh
  rw [List.singleton_append] at e1
  have e2 : lfL p.lo p.hi p.cap (gi p.inf h :: p.inf.drop (h + 1)) (P.drop h) w = lfT p P h w := by unfold lfT; rw [← e1]
  have e3 : (P.drop h).tail = P.drop (h + 1) := List.tail_drop
  have e4 : gi (P.drop h) 0 = gi P h := by rw [gi_drop]; rfl
  have e5 : lfL p.lo p.hi p.cap (p.inf.drop (h + 1)) (P.drop (h + 1)) = lfT p P (h + 1) := rfl
  rw [e1]
  refine ⟨h1, ?_, ?_, ?_⟩
  · rw [e2, e3, e4, e5]; exact h2
  · intro y hy; rw [e2, e3, e4, e5]; exact h3 y hy
  · rw [e3]; exact h4
set_option maxRecDepth 100000 in
set_option maxHeartbeats 8000000 in
theorem leastPlan_ok (p : Pm) (f : PmF p) (P : List Int) (hP : Pr0 P) (hl : P.length = p.inf.length) : ACalls Tryz.prog 84 [.agg (pmC p), iS P] [] (fun r o => ∃ xs : List Int, r = .tup [.ref 0 0 xs.length, I (if 0 ≤ lfT p P 0 p.st then lfT p P 0 p.st else 0), B (decide (0 ≤ lfT p P 0 p.st))] ∧ o = [oI xs] ∧ (0 ≤ lfT p P 0 p.st → FstP p.lo p.hi p.cap p.inf P p.st xs) ∧ (lfT p P 0 p.st < 0 → xs = [])) := by
  refine ACalls.of_vc Tryz.func84 rfl (by decide) 96 rfl [.tmp 4, .tmp 5, .tmp 6] rfl (by simp) ?_
  have n := f.n
  have ha := f.a
  have hbb := f.b
  have hcc := f.c
  have hd := f.d
  have he := f.e
  have hlf := leastFrom_ok p f P hP hl
  have hg0 := gr_rowsT p P 0 (by omega)
  have hgl := fun i => rowT_len p P i
  have hgi := gi_rowT p P 0 p.st.toNat (by omega)
  rw [show ((p.st.toNat : Nat) : Int) = p.st by omega] at hgi
  have hrl := rowsT_len p P 0
  have hgr := gr_rowsT p P
  have hLb := lfT_bd f hP 0 p.st
  unfold pmC iS at *
  (repeat (first | simp (maxSteps := 2000000) (disch := omega) only [go_sem, ↓reduceIte] | with_reducible refine vIf_t ?_ | with_reducible refine vIf_f ?_))
  (refine vCallX_of ?_; (repeat (first | simp (maxSteps := 2000000) (disch := omega) only [go_sem, ↓reduceIte] | with_reducible refine vIf_t ?_ | with_reducible refine vIf_f ?_)); refine vCall_eq (hlf) (by simp (disch := omega) only [go_sem]) rfl (by first | exact Or.inl rfl | exact Or.inr ⟨rfl, rfl⟩ | (apply Or.inr; simp only [go_sem])) ?_; (repeat (first | simp (maxSteps := 2000000) (disch := omega) only [go_sem, ↓reduceIte] | with_reducible refine vIf_t ?_ | with_reducible refine vIf_f ?_)))
  generalize rowsT p P 0 = R at *
  (refine vDraw_sch 5 [(0, false), (1, false), (3, false), (2, false), (4, true)] mixed (by kernel_rfl) ?_; simp only [List.cons_append, List.nil_append, List.map_cons, List.map_nil, nthO_zero, nthO_succ, List.drop_succ_cons, List.drop_zero, List.drop_nil]; (repeat (first | simp (maxSteps := 2000000) (disch := omega) only [go_sem, ↓reduceIte] | with_reducible refine vIf_t ?_ | with_reducible refine vIf_f ?_)))
  have hg0l := hgl 0
  (repeat (first | simp (maxSteps := 2000000) (disch := omega) only [go_sem, ↓reduceIte, hg0, hgi] | with_reducible refine vIf_t ?_ | with_reducible refine vIf_f ?_))
  refine vIf_dec (fun h => ?_) (fun h => ?_)
  · have e1 : (if 0 ≤ lfT p P 0 p.st then lfT p P 0 p.st else 0) = 0 := if_neg (by omega)
    have e2 : decide (0 ≤ lfT p P 0 p.st) = false := decide_eq_false (by omega)
    rw [e1, e2]
    (repeat (first | simp (maxSteps := 2000000) (disch := omega) only [go_sem, ↓reduceIte] | with_reducible refine vIf_t ?_ | with_reducible refine vIf_f ?_))
    (refine retK_of ?_; (repeat (first | simp (maxSteps := 2000000) (disch := omega) only [go_sem, ↓reduceIte] | with_reducible refine vIf_t ?_ | with_reducible refine vIf_f ?_)))
    exact ⟨[], rfl, rfl, fun h => by omega, fun _ => rfl⟩
  have e1 : (if 0 ≤ lfT p P 0 p.st then lfT p P 0 p.st else 0) = lfT p P 0 p.st := if_pos (by omega)
  have e2 : decide (0 ≤ lfT p P 0 p.st) = true := decide_eq_true (by omega)
  rw [e1, e2]
  (repeat (first | simp (maxSteps := 2000000) (disch := omega) only [go_sem, ↓reduceIte] | with_reducible refine vIf_t ?_ | with_reducible refine vIf_f ?_))
  refine vcLoop_invF (fun x : Nat × List Int × Int => x.1 ≤ p.inf.length ∧ x.2.1.length = x.1 ∧ (p.lo ≤ x.2.2 ∧ x.2.2 ≤ p.hi) ∧ 0 ≤ lfT p P x.1 x.2.2 ∧ ∀ ys, FstP p.lo p.hi p.cap (p.inf.drop x.1) (P.drop x.1) x.2.2 ys → FstP p.lo p.hi p.cap p.inf P p.st (x.2.1 ++ ys))
    (fun x => ⟨96, 0, [(34, I x.1), (10, I x.2.2), (2, .ptr 0 0), (9, .ref 1 0 x.2.1.length), (7, .sl (p.inf.length + 1) (rws R)), (1, .sl P.length (ints P)), (32, .sl p.inf.length (ints p.inf)), (33, I p.inf.length), (8, I (lfT p P 0 p.st))], [some ⟨6, pmC p⟩, oI x.2.1]⟩) (fun x => p.inf.length - x.1) (0, [], p.st) ⟨by simp only; omega, rfl, by simp only; omega, by simp only; omega, fun ys h => by simpa using h⟩ (by unfold pmC iS; (first | (refine leF_s ?_; ((repeat (first | simp (maxSteps := 2000000) (disch := omega) only [go_sem, ↓reduceIte] | with_reducible refine vIf_t ?_ | with_reducible refine vIf_f ?_)); all_goals (try simp); all_goals (try omega)); done) | (refine leF_p ?_; ((repeat (first | simp (maxSteps := 2000000) (disch := omega) only [go_sem, ↓reduceIte] | with_reducible refine vIf_t ?_ | with_reducible refine vIf_f ?_)); all_goals (try simp); all_goals (try omega)); done))) ?_
  rintro ⟨k, xs, w⟩ ⟨i1, i2, i3, i4, i5⟩
  simp only at i1 i2 i3 i4 i5
  unfold pmC iS
  (repeat (first | simp (maxSteps := 2000000) (disch := omega) only [go_sem, ↓reduceIte] | with_reducible refine vIf_t ?_ | with_reducible refine vIf_f ?_))
  refine vIf_dec (fun h5 => ?_) (fun h5 => ?_)
  rotate_left
  · have ek : k = p.inf.length := by omega
    have := i5 [] (by rw [ek, List.drop_length]; trivial)
    rw [List.append_nil] at this
    (repeat (first | simp (maxSteps := 2000000) (disch := omega) only [go_sem, ↓reduceIte] | with_reducible refine vIf_t ?_ | with_reducible refine vIf_f ?_))
    (refine retK_of ?_; (repeat (first | simp (maxSteps := 2000000) (disch := omega) only [go_sem, ↓reduceIte] | with_reducible refine vIf_t ?_ | with_reducible refine vIf_f ?_)))
    exact ⟨xs, rfl, rfl, fun _ => this, fun h => by omega⟩
  have hkl : k < p.inf.length := by omega
  have hkP : k < P.length := by omega
  have hinf := f.infg k hkl
  have hpr := hP k
  have hs := lfT_step p P k hkl w
  obtain ⟨x0, hx0, hx1, hx2⟩ := lfx_ex (lo := p.lo) (hi := p.hi) (f := lfT p P (k + 1)) (i := gi p.inf k) (pr := gi P k) (w := w) hpr.1 (p.cap + 1).toNat (by rw [← hs]; exact i4)
  rw [← hs] at hx2
  have hg1 := hgr k (by omega)
  have hg2 := hgr (k + 1) (by omega)
  have hl1 := hgl k
  have hl2 := hgl (k + 1)
  have hgiw := gi_rowT p P k w.toNat (by omega)
  rw [show ((w.toNat : Nat) : Int) = w by omega] at hgiw
  (repeat (first | simp (maxSteps := 2000000) (disch := omega) only [go_sem, ↓reduceIte] | with_reducible refine vIf_t ?_ | with_reducible refine vIf_f ?_))
  refine vcLoop_invF (fun x : Nat => x ≤ x0 ∧ ∀ y : Nat, y < x → ¬ (okx p.lo p.hi (lfT p P (k + 1)) (gi p.inf k) w y = true ∧ y * gi P k + lfT p P (k + 1) (w + gi p.inf k - y) = lfT p P k w))
    (fun x => ⟨96, 0, [(13, I x), (11, I k), (12, I (gi p.inf k)), (34, I k), (10, I w), (2, .ptr 0 0), (9, .ref 1 0 xs.length), (7, .sl (p.inf.length + 1) (rws R)), (1, .sl P.length (ints P)), (32, .sl p.inf.length (ints p.inf)), (33, I p.inf.length), (8, I (lfT p P 0 p.st))], [some ⟨6, pmC p⟩, oI xs]⟩) (fun x => x0 + 1 - x) 0 ⟨by omega, fun y hy => by omega⟩ (by unfold pmC iS; (first | (refine leF_s ?_; ((repeat (first | simp (maxSteps := 2000000) (disch := omega) only [go_sem, ↓reduceIte] | with_reducible refine vIf_t ?_ | with_reducible refine vIf_f ?_)); all_goals (try simp); all_goals (try omega)); done) | (refine leF_p ?_; ((repeat (first | simp (maxSteps := 2000000) (disch := omega) only [go_sem, ↓reduceIte] | with_reducible refine vIf_t ?_ | with_reducible refine vIf_f ?_)); all_goals (try simp); all_goals (try omega)); done))) ?_
  rintro x ⟨j1, j2⟩
  have hin := in_ok (w + gi p.inf k - x) p.lo p.hi
  have htb := lfT_bd f hP (k + 1) (w + gi p.inf k - x)
  have h6 : 0 ≤ (x : Int) * gi P k := Int.mul_nonneg (by omega) hpr.1
  have h7 : (x : Int) * gi P k ≤ 40 * 1000 := Int.mul_le_mul (by omega) hpr.2 hpr.1 (by omega)
  unfold pmC iS
  (repeat (first | simp (maxSteps := 2000000) (disch := omega) only [go_sem, ↓reduceIte] | with_reducible refine vIf_t ?_ | with_reducible refine vIf_f ?_))
  (refine vDraw_sch 40 ([(0, false), (1, false), (3, false), (2, false), (4, true), (5, false), (6, false), (7, false), (8, false), (9, false), (10, false), (11, false), (12, false), (13, false), (14, false), (15, false), (16, false), (17, false), (18, false), (19, false)] ++ [(20, false), (21, false), (22, false), (23, false), (24, false), (25, false), (26, false), (27, false), (28, false), (29, false), (30, false), (31, false), (32, false), (33, false), (34, false), (35, false), (36, false), (37, false), (38, false), (39, false)]) mixed (by kernel_rfl) ?_; simp only [List.cons_append, List.nil_append, List.map_cons, List.map_nil, nthO_zero, nthO_succ, List.drop_succ_cons, List.drop_zero, List.drop_nil]; (repeat (first | simp (maxSteps := 2000000) (disch := omega) only [go_sem, ↓reduceIte] | with_reducible refine vIf_t ?_ | with_reducible refine vIf_f ?_)))
  (refine vsCallX_of ?_; (try (repeat (first | simp (maxSteps := 2000000) (disch := omega) only [go_sem, ↓reduceIte] | with_reducible refine vIf_t ?_ | with_reducible refine vIf_f ?_))); refine vCall_eq (hin) (by simp (disch := omega) only [go_sem]) rfl (by first | exact Or.inl rfl | exact Or.inr ⟨rfl, rfl⟩ | (apply Or.inr; simp only [go_sem])) ?_; (try (repeat (first | simp (maxSteps := 2000000) (disch := omega) only [go_sem, ↓reduceIte] | with_reducible refine vIf_t ?_ | with_reducible refine vIf_f ?_))))
  have hnot : (x : Int) < x0 + 1 → ¬ (okx p.lo p.hi (lfT p P (k + 1)) (gi p.inf k) w x = true ∧ x * gi P k + lfT p P (k + 1) (w + gi p.inf k - x) = lfT p P k w) → x + 1 ≤ x0 ∧ ∀ y : Nat, y < x + 1 → ¬ (okx p.lo p.hi (lfT p P (k + 1)) (gi p.inf k) w y = true ∧ y * gi P k + lfT p P (k + 1) (w + gi p.inf k - y) = lfT p P k w) := by
    intro _ hn
    refine ⟨?_, fun y hy => ?_⟩
    · by_cases e : x = x0
      · subst e; exact absurd ⟨hx1, hx2⟩ hn
      · omega
    · by_cases e : y = x
      · subst e; exact hn
      · exact j2 y (by omega)
  by_cases c1 : p.lo ≤ w + gi p.inf k - x ∧ w + gi p.inf k - x ≤ p.hi
  rotate_left
  · have d1 : decide (p.lo ≤ w + gi p.inf k - x ∧ w + gi p.inf k - x ≤ p.hi) = false := decide_eq_false c1
    (repeat (first | simp (maxSteps := 2000000) (disch := omega) only [go_sem, ↓reduceIte, d1] | with_reducible refine vIf_t ?_ | with_reducible refine vIf_f ?_))
    refine againF (x + 1) (hnot (by omega) fun h => c1 (okx_iff.1 h.1).1) (by omega) (by (first | (refine leF_s ?_; ((repeat (first | simp (maxSteps := 2000000) (disch := omega) only [go_sem, ↓reduceIte] | with_reducible refine vIf_t ?_ | with_reducible refine vIf_f ?_)); all_goals (try simp); all_goals (try omega)); done) | (refine leF_p ?_; ((repeat (first | simp (maxSteps := 2000000) (disch := omega) only [go_sem, ↓reduceIte] | with_reducible refine vIf_t ?_ | with_reducible refine vIf_f ?_)); all_goals (try simp); all_goals (try omega)); done)))
  have d1 : decide (p.lo ≤ w + gi p.inf k - x ∧ w + gi p.inf k - x ≤ p.hi) = true := decide_eq_true c1
  have hgi2 := gi_rowT p P (k + 1) (w + gi p.inf k - x).toNat (by omega)
  rw [show (((w + gi p.inf k - x).toNat : Nat) : Int) = w + gi p.inf k - x by omega] at hgi2
  by_cases c2 : 0 ≤ lfT p P (k + 1) (w + gi p.inf k - x)
  rotate_left
  · have d2 : decide (0 ≤ lfT p P (k + 1) (w + gi p.inf k - x)) = false := decide_eq_false c2
    (repeat (first | simp (maxSteps := 2000000) (disch := omega) only [go_sem, ↓reduceIte, d1, hg2, hgi2, d2] | with_reducible refine vIf_t ?_ | with_reducible refine vIf_f ?_))
    refine againF (x + 1) (hnot (by omega) fun h => c2 (okx_iff.1 h.1).2) (by omega) (by (first | (refine leF_s ?_; ((repeat (first | simp (maxSteps := 2000000) (disch := omega) only [go_sem, ↓reduceIte] | with_reducible refine vIf_t ?_ | with_reducible refine vIf_f ?_)); all_goals (try simp); all_goals (try omega)); done) | (refine leF_p ?_; ((repeat (first | simp (maxSteps := 2000000) (disch := omega) only [go_sem, ↓reduceIte] | with_reducible refine vIf_t ?_ | with_reducible refine vIf_f ?_)); all_goals (try simp); all_goals (try omega)); done)))
  have d2 : decide (0 ≤ lfT p P (k + 1) (w + gi p.inf k - x)) = true := decide_eq_true c2
  have hok := okx_iff.2 ⟨c1, c2⟩
  by_cases c3 : x * gi P k + lfT p P (k + 1) (w + gi p.inf k - x) = lfT p P k w
  rotate_left
  · have d3 : (x * gi P k + lfT p P (k + 1) (w + gi p.inf k - x) == lfT p P k w) = false := by simpa using c3
    (repeat (first | simp (maxSteps := 2000000) (disch := omega) only [go_sem, ↓reduceIte, d1, hg2, hgi2, d2, hg1, hgiw, d3] | with_reducible refine vIf_t ?_ | with_reducible refine vIf_f ?_))
    refine againF (x + 1) (hnot (by omega) fun h => c3 h.2) (by omega) (by (first | (refine leF_s ?_; ((repeat (first | simp (maxSteps := 2000000) (disch := omega) only [go_sem, ↓reduceIte] | with_reducible refine vIf_t ?_ | with_reducible refine vIf_f ?_)); all_goals (try simp); all_goals (try omega)); done) | (refine leF_p ?_; ((repeat (first | simp (maxSteps := 2000000) (disch := omega) only [go_sem, ↓reduceIte] | with_reducible refine vIf_t ?_ | with_reducible refine vIf_f ?_)); all_goals (try simp); all_goals (try omega)); done)))
  have d3 : (x * gi P k + lfT p P (k + 1) (w + gi p.inf k - x) == lfT p P k w) = true := by simpa using c3
  (repeat (first | simp (maxSteps := 2000000) (disch := omega) only [go_sem, ↓reduceIte, d1, hg2, hgi2, d2, hg1, hgiw, d3] | with_reducible refine vIf_t ?_ | with_reducible refine vIf_f ?_))
  refine againF (k + 1, xs ++ [(x : Int)], w + gi p.inf k - x) ⟨by simp only; omega, by simp; omega, c1, c2, fun ys h => ?_⟩ (by simp only; omega) (by (first | (refine leF_s ?_; ((repeat (first | simp (maxSteps := 2000000) (disch := omega) only [go_sem, ↓reduceIte] | with_reducible refine vIf_t ?_ | with_reducible refine vIf_f ?_)); all_goals (try simp); all_goals (try omega)); done) | (refine leF_p ?_; ((repeat (first | simp (maxSteps := 2000000) (disch := omega) only [go_sem, ↓reduceIte] | with_reducible refine vIf_t ?_ | with_reducible refine vIf_f ?_)); all_goals (try simp); all_goals (try omega)); done)))
  simp only at h
  have := i5 ((x : Int) :: ys) (FstP_cons hkl (by omega) ⟨by rw [Int.toNat_natCast]; exact hok, c3⟩ (fun y hy => j2 y (by omega)) h)
  simpa using this
end Go.Proofs.YtpjjjonplikilaaGreat
namespace Go.Proofs.YtpjjjonplikilaaGreat
open Go.AG

attribute [local go_sem] beq_self_eq_true bne_self_eq_false Bool.not_true Bool.not_false
theorem tk_rep (n : Nat) (c : Int) : (List.replicate n c).take n = List.replicate n c := by rw [List.take_replicate, Nat.min_self]
attribute [local go_sem] tk_rep
theorem gi_rep (n : Nat) (c : Int) (i : Nat) (h : i < n) : gi (List.replicate n c) i = c := by
  rw [gi_lt _ _ (by simpa using h)]; simp
theorem Pr0_rep (n : Nat) (c : Int) (hc : 0 ≤ c ∧ c ≤ 1000) : Pr0 (List.replicate n c) := fun i => by
  by_cases h : i < n
  · rw [gi_rep n c i h]; exact hc
  · have : gi (List.replicate n c) i = 0 := by simp [gi, h]
    omega
/-- there is a plan -/
def feB (p : Pm) : Bool := decide (0 ≤ lfT p (List.replicate p.inf.length 0) 0 p.st)
theorem lfT_fe {p : Pm} (f : PmF p) {P : List Int} (hP : Pr0 P) : 0 ≤ lfT p P 0 p.st ↔ feB p = true := by
  unfold feB lfT
  rw [decide_eq_true_eq, List.drop_zero, List.drop_zero, lf_iff f.e.1 hP, lf_iff f.e.1 (by rw [List.drop_zero]; exact Pr0_rep _ 0 (by omega))]
theorem feB_iff {p : Pm} (f : PmF p) : feB p = true ↔ ∃ xs, PlanOk p.lo p.hi p.cap p.inf p.st xs := by
  rw [← lfT_fe f f.pr0]
  unfold lfT
  rw [List.drop_zero, List.drop_zero, lf_iff f.e.1 f.pr0]
theorem feB_top {p : Pm} (f : PmF p) : feB p = true ↔ p.st ≤ tpL p.hi p.cap p.inf ∧ GoodT p.lo p.hi p.cap p.inf := by
  rw [feB_iff f, plan_iff f.e.1 (fun i hi => (f.inf0 i hi).1) f.b f.c]
set_option maxHeartbeats 1000000 in
theorem planWith_ok (p : Pm) (f : PmF p) (P : List Int) (hP : Pr0 P) (hl : P.length = p.inf.length) : ACalls Tryz.prog 49 [.agg (pmC p), iS P] [] (fun r o => ∃ xs : List Int, r = .tup [.ref 0 0 xs.length, I (if feB p = true then 0 else 3)] ∧ o = [oI xs] ∧ (feB p = true → FstP p.lo p.hi p.cap p.inf P p.st xs) ∧ (feB p = false → xs = [])) := by
  refine ACalls.of_vc Tryz.func49 rfl (by decide) 20 rfl [.tmp 4, .tmp 5] rfl (by simp) ?_
  have h1 := leastPlan_ok p f P hP hl
  have hfe := lfT_fe f hP
  unfold pmC iS at *
  cases e : feB p with
  | true =>
    rw [e] at hfe
    have hL := hfe.2 rfl
    rw [decide_eq_true hL] at h1
    (repeat (first | simp (maxSteps := 2000000) (disch := omega) only [go_sem, ↓reduceIte] | with_reducible refine vIf_t ?_ | with_reducible refine vIf_f ?_))
    (refine vCallX_of ?_; (repeat (first | simp (maxSteps := 2000000) (disch := omega) only [go_sem, ↓reduceIte] | with_reducible refine vIf_t ?_ | with_reducible refine vIf_f ?_)); refine vCall_ex (h1) (by simp (disch := omega) only [go_sem]) rfl ?_); rintro _ _ ⟨xs, rfl, rfl, h2, h3⟩; (refine ⟨(by first | exact Or.inl rfl | exact Or.inr ⟨rfl, rfl⟩ | (apply Or.inr; simp only [go_sem])), ?_⟩; (repeat (first | simp (maxSteps := 2000000) (disch := omega) only [go_sem, ↓reduceIte] | with_reducible refine vIf_t ?_ | with_reducible refine vIf_f ?_)))
    (refine retK_of ?_; (repeat (first | simp (maxSteps := 2000000) (disch := omega) only [go_sem, ↓reduceIte] | with_reducible refine vIf_t ?_ | with_reducible refine vIf_f ?_)))
    exact ⟨xs, rfl, rfl, fun _ => h2 hL, fun h => by cases h⟩
  | false =>
    rw [e] at hfe
    have hL : ¬ 0 ≤ lfT p P 0 p.st := fun h => by have := hfe.1 h; cases this
    rw [decide_eq_false hL] at h1
    (repeat (first | simp (maxSteps := 2000000) (disch := omega) only [go_sem, ↓reduceIte] | with_reducible refine vIf_t ?_ | with_reducible refine vIf_f ?_))
    (refine vCallX_of ?_; (repeat (first | simp (maxSteps := 2000000) (disch := omega) only [go_sem, ↓reduceIte] | with_reducible refine vIf_t ?_ | with_reducible refine vIf_f ?_)); refine vCall_ex (h1) (by simp (disch := omega) only [go_sem]) rfl ?_); rintro _ _ ⟨xs, rfl, rfl, h2, h3⟩; (refine ⟨(by first | exact Or.inl rfl | exact Or.inr ⟨rfl, rfl⟩ | (apply Or.inr; simp only [go_sem])), ?_⟩; (repeat (first | simp (maxSteps := 2000000) (disch := omega) only [go_sem, ↓reduceIte] | with_reducible refine vIf_t ?_ | with_reducible refine vIf_f ?_)))
    (refine retK_of ?_; (repeat (first | simp (maxSteps := 2000000) (disch := omega) only [go_sem, ↓reduceIte] | with_reducible refine vIf_t ?_ | with_reducible refine vIf_f ?_)))
    exact ⟨[], rfl, rfl, by simp, by simp⟩
def laPC (p : Pm) : Int := if pmB p = true then if feB p = true then 0 else 3 else 1
end Go.Proofs.YtpjjjonplikilaaGreat
namespace Go.Proofs.YtpjjjonplikilaaGreat
open Go.AG Go.Lib

attribute [local go_sem] beq_self_eq_true bne_self_eq_false Bool.not_true Bool.not_false tk_rep
/-- what CheapestPlan tells -/
structure ChR (p : Pm) (xs : List Int) : Prop where
  a : laPC p = 0 → FstP p.lo p.hi p.cap p.inf p.pr p.st xs
  b : laPC p ≠ 0 → xs = []
theorem laP_1 {p : Pm} (h : pmB p = false) : laPC p = 1 := by unfold laPC; rw [h]; rfl
theorem laP_0 {p : Pm} (h : pmB p = true) (h2 : feB p = true) : laPC p = 0 := by unfold laPC; rw [h, h2]; rfl
theorem laP_3 {p : Pm} (h : pmB p = true) (h2 : feB p = false) : laPC p = 3 := by unfold laPC; rw [h, h2]; rfl
theorem laP_f {p : Pm} (h : laPC p = 0) : PmF p ∧ feB p = true := by
  unfold laPC at h
  split at h
  · rename_i h1
    split at h
    · rename_i h2; exact ⟨pmB_f h1, h2⟩
    · omega
  · omega
theorem cheapP_ok (p : Pm) (hn : p.inf.length ≤ 10000000) (hm : p.pr.length ≤ 10000000) : ACalls Tryz.prog 17 [.agg (pmC p)] [] (fun r o => ∃ xs : List Int, r = .tup [.ref 0 0 xs.length, I (laPC p)] ∧ o = [oI xs] ∧ ChR p xs) := by
  refine ACalls.of_vc Tryz.func17 rfl (by decide) 14 rfl [.tmp 2, .tmp 3] rfl (by simp) ?_
  have hv := validPm_ok p hn hm
  cases e : pmB p with
  | false =>
    rw [laP_1 e]
    unfold pmC iS at *
    (repeat (first | simp (maxSteps := 2000000) (disch := omega) only [go_sem, ↓reduceIte] | with_reducible refine vIf_t ?_ | with_reducible refine vIf_f ?_))
    (refine vCallX_of ?_; (repeat (first | simp (maxSteps := 2000000) (disch := omega) only [go_sem, ↓reduceIte] | with_reducible refine vIf_t ?_ | with_reducible refine vIf_f ?_)); refine vCall_eq (hv) (by simp (disch := omega) only [go_sem]) rfl (by first | exact Or.inl rfl | exact Or.inr ⟨rfl, rfl⟩ | (apply Or.inr; simp only [go_sem])) ?_; (repeat (first | simp (maxSteps := 2000000) (disch := omega) only [go_sem, ↓reduceIte] | with_reducible refine vIf_t ?_ | with_reducible refine vIf_f ?_)))
    (repeat (first | simp (maxSteps := 2000000) (disch := omega) only [go_sem, ↓reduceIte, e] | with_reducible refine vIf_t ?_ | with_reducible refine vIf_f ?_))
    (refine retK_of ?_; (repeat (first | simp (maxSteps := 2000000) (disch := omega) only [go_sem, ↓reduceIte] | with_reducible refine vIf_t ?_ | with_reducible refine vIf_f ?_)))
    exact ⟨[], rfl, rfl, ⟨fun h => (by rw [laP_1 e] at h; cases h), fun _ => rfl⟩⟩
  | true =>
    have f := pmB_f e
    have h1 := planWith_ok p f p.pr f.pr0 f.l
    unfold pmC iS at *
    cases e2 : feB p with
    | true =>
      rw [e2] at h1
      rw [laP_0 e e2]
      (repeat (first | simp (maxSteps := 2000000) (disch := omega) only [go_sem, ↓reduceIte] | with_reducible refine vIf_t ?_ | with_reducible refine vIf_f ?_))
      (refine vCallX_of ?_; (repeat (first | simp (maxSteps := 2000000) (disch := omega) only [go_sem, ↓reduceIte] | with_reducible refine vIf_t ?_ | with_reducible refine vIf_f ?_)); refine vCall_eq (hv) (by simp (disch := omega) only [go_sem]) rfl (by first | exact Or.inl rfl | exact Or.inr ⟨rfl, rfl⟩ | (apply Or.inr; simp only [go_sem])) ?_; (repeat (first | simp (maxSteps := 2000000) (disch := omega) only [go_sem, ↓reduceIte] | with_reducible refine vIf_t ?_ | with_reducible refine vIf_f ?_)))
      (repeat (first | simp (maxSteps := 2000000) (disch := omega) only [go_sem, ↓reduceIte, e] | with_reducible refine vIf_t ?_ | with_reducible refine vIf_f ?_))
      (refine vCallX_of ?_; (repeat (first | simp (maxSteps := 2000000) (disch := omega) only [go_sem, ↓reduceIte] | with_reducible refine vIf_t ?_ | with_reducible refine vIf_f ?_)); refine vCall_ex (h1) (by simp (disch := omega) only [go_sem]) rfl ?_); rintro _ _ ⟨xs, rfl, rfl, h2, h3⟩; (refine ⟨(by first | exact Or.inl rfl | exact Or.inr ⟨rfl, rfl⟩ | (apply Or.inr; simp only [go_sem])), ?_⟩; (repeat (first | simp (maxSteps := 2000000) (disch := omega) only [go_sem, ↓reduceIte] | with_reducible refine vIf_t ?_ | with_reducible refine vIf_f ?_)))
      (refine retK_of ?_; (repeat (first | simp (maxSteps := 2000000) (disch := omega) only [go_sem, ↓reduceIte] | with_reducible refine vIf_t ?_ | with_reducible refine vIf_f ?_)))
      exact ⟨xs, by simp, rfl, ⟨fun _ => h2 rfl, fun h => absurd (laP_0 e e2) h⟩⟩
    | false =>
      rw [e2] at h1
      rw [laP_3 e e2]
      (repeat (first | simp (maxSteps := 2000000) (disch := omega) only [go_sem, ↓reduceIte] | with_reducible refine vIf_t ?_ | with_reducible refine vIf_f ?_))
      (refine vCallX_of ?_; (repeat (first | simp (maxSteps := 2000000) (disch := omega) only [go_sem, ↓reduceIte] | with_reducible refine vIf_t ?_ | with_reducible refine vIf_f ?_)); refine vCall_eq (hv) (by simp (disch := omega) only [go_sem]) rfl (by first | exact Or.inl rfl | exact Or.inr ⟨rfl, rfl⟩ | (apply Or.inr; simp only [go_sem])) ?_; (repeat (first | simp (maxSteps := 2000000) (disch := omega) only [go_sem, ↓reduceIte] | with_reducible refine vIf_t ?_ | with_reducible refine vIf_f ?_)))
      (repeat (first | simp (maxSteps := 2000000) (disch := omega) only [go_sem, ↓reduceIte, e] | with_reducible refine vIf_t ?_ | with_reducible refine vIf_f ?_))
      (refine vCallX_of ?_; (repeat (first | simp (maxSteps := 2000000) (disch := omega) only [go_sem, ↓reduceIte] | with_reducible refine vIf_t ?_ | with_reducible refine vIf_f ?_)); refine vCall_ex (h1) (by simp (disch := omega) only [go_sem]) rfl ?_); rintro _ _ ⟨xs, rfl, rfl, h2, h3⟩; (refine ⟨(by first | exact Or.inl rfl | exact Or.inr ⟨rfl, rfl⟩ | (apply Or.inr; simp only [go_sem])), ?_⟩; (repeat (first | simp (maxSteps := 2000000) (disch := omega) only [go_sem, ↓reduceIte] | with_reducible refine vIf_t ?_ | with_reducible refine vIf_f ?_)))
      (refine retK_of ?_; (repeat (first | simp (maxSteps := 2000000) (disch := omega) only [go_sem, ↓reduceIte] | with_reducible refine vIf_t ?_ | with_reducible refine vIf_f ?_)))
      exact ⟨xs, by simp, rfl, ⟨fun h => (by rw [laP_3 e e2] at h; cases h), fun _ => h3 rfl⟩⟩
end Go.Proofs.YtpjjjonplikilaaGreat
namespace Go.Proofs.YtpjjjonplikilaaGreat
open Go.AG

attribute [local go_sem] beq_self_eq_true bne_self_eq_false Bool.not_true Bool.not_false tk_rep
/-- the water after some hours from one on -/
def ovV (p : Pm) (a j : Nat) : Int := ovW p.st p.lo a + ovS p.cap (p.inf.drop a) j
theorem ovV_succ (p : Pm) (a j : Nat) : ovV p a (j + 1) = ovV p a j + (gi p.inf (a + j) - p.cap) := by
  simp only [ovV, ovS, gi_drop]; omega
theorem ovV_zero (p : Pm) (a : Nat) : ovV p a 0 = ovW p.st p.lo a := by simp [ovV, ovS]
theorem ovV_bd {p : Pm} (f : PmF p) (a : Nat) : ∀ j, a + j ≤ p.inf.length → -40 * (j : Int) ≤ ovV p a j ∧ ovV p a j ≤ 300 + 40 * j := by
  intro j
  induction j with
  | zero =>
    intro _
    have := f.a; have := f.b; have := f.c; have := f.d
    rw [ovV_zero]; unfold ovW; split <;> omega
  | succ j ih =>
    intro h
    have h1 := ih (by omega)
    have h2 := f.infg (a + j) (by omega)
    have h3 := f.e
    rw [ovV_succ]; omega
/-- the first overload -/
structure OvF (p : Pm) (a k : Nat) : Prop where
  n : a + k < p.inf.length
  v : p.hi < ovV p a (k + 1)
  f : ∀ j, j < k → ovV p a (j + 1) ≤ p.hi
  g : ∀ a' k', a' < a → a' + k' < p.inf.length → ovV p a' (k' + 1) ≤ p.hi
theorem fe_ov {p : Pm} (f : PmF p) : feB p = true ↔ ∀ a k, a + k < p.inf.length → ovV p a (k + 1) ≤ p.hi := by
  rw [feB_top f, ov_iff (by have := f.b; have := f.c; omega) f.c]
  exact Iff.rfl
/-- what PumpOverload tells -/
def OvR (p : Pm) (a b : Nat) (m c : Int) : Prop := (pmB p = false ∧ c = 1 ∧ a = 0 ∧ b = 0 ∧ m = 0) ∨ (pmB p = true ∧ c = 3 ∧ a = 0 ∧ b = 0 ∧ m = 0 ∧ feB p = true) ∨
  (pmB p = true ∧ c = 0 ∧ feB p = false ∧ ∃ k, b = a + k ∧ OvF p a k ∧ m = ovV p a (k + 1) - p.hi)
set_option maxRecDepth 100000 in
set_option maxHeartbeats 4000000 in
theorem overload_ok (p : Pm) (hn : p.inf.length ≤ 10000000) (hm : p.pr.length ≤ 10000000) : ACalls Tryz.prog 18 [.agg (pmC p)] [] (fun r o => ∃ (a b : Nat) (m c : Int), r = .tup [I a, I b, I m, I c] ∧ o = [] ∧ OvR p a b m c) := by
  refine ACalls.of_vc Tryz.func18 rfl (by decide) 53 rfl [.tmp 2, .tmp 3, .tmp 4, .tmp 5] rfl (by simp) ?_
  have hv := validPm_ok p hn hm
  cases e : pmB p with
  | false =>
    unfold pmC iS at *
    (repeat (first | simp (maxSteps := 2000000) (disch := omega) only [go_sem, ↓reduceIte] | with_reducible refine vIf_t ?_ | with_reducible refine vIf_f ?_))
    (refine vCallX_of ?_; (repeat (first | simp (maxSteps := 2000000) (disch := omega) only [go_sem, ↓reduceIte] | with_reducible refine vIf_t ?_ | with_reducible refine vIf_f ?_)); refine vCall_eq (hv) (by simp (disch := omega) only [go_sem]) rfl (by first | exact Or.inl rfl | exact Or.inr ⟨rfl, rfl⟩ | (apply Or.inr; simp only [go_sem])) ?_; (repeat (first | simp (maxSteps := 2000000) (disch := omega) only [go_sem, ↓reduceIte] | with_reducible refine vIf_t ?_ | with_reducible refine vIf_f ?_)))
    (repeat (first | simp (maxSteps := 2000000) (disch := omega) only [go_sem, ↓reduceIte, e] | with_reducible refine vIf_t ?_ | with_reducible refine vIf_f ?_))
    (refine retK_of ?_; (repeat (first | simp (maxSteps := 2000000) (disch := omega) only [go_sem, ↓reduceIte] | with_reducible refine vIf_t ?_ | with_reducible refine vIf_f ?_)))
    exact ⟨0, 0, 0, 1, rfl, .inl ⟨e, rfl, rfl, rfl, rfl⟩⟩
  | true =>
    have f := pmB_f e
    have n := f.n
    have hfo := fe_ov f
    have hd := f.d
    have ha := f.a
    have hbb := f.b
    have hcc := f.c
    unfold pmC iS at *
    (repeat (first | simp (maxSteps := 2000000) (disch := omega) only [go_sem, ↓reduceIte] | with_reducible refine vIf_t ?_ | with_reducible refine vIf_f ?_))
    (refine vCallX_of ?_; (repeat (first | simp (maxSteps := 2000000) (disch := omega) only [go_sem, ↓reduceIte] | with_reducible refine vIf_t ?_ | with_reducible refine vIf_f ?_)); refine vCall_eq (hv) (by simp (disch := omega) only [go_sem]) rfl (by first | exact Or.inl rfl | exact Or.inr ⟨rfl, rfl⟩ | (apply Or.inr; simp only [go_sem])) ?_; (repeat (first | simp (maxSteps := 2000000) (disch := omega) only [go_sem, ↓reduceIte] | with_reducible refine vIf_t ?_ | with_reducible refine vIf_f ?_)))
    (repeat (first | simp (maxSteps := 2000000) (disch := omega) only [go_sem, ↓reduceIte, e] | with_reducible refine vIf_t ?_ | with_reducible refine vIf_f ?_))
    refine vcLoop_invF (fun a : Nat => a ≤ p.inf.length ∧ ∀ a' k', a' < a → a' + k' < p.inf.length → ovV p a' (k' + 1) ≤ p.hi) (fun a => ⟨53, 0, [(15, I a), (1, .ptr 0 0), (14, I p.inf.length)], [some ⟨6, pmC p⟩]⟩) (fun a => p.inf.length - a) 0 ⟨by omega, fun a' k' h => by omega⟩ (by unfold pmC iS; (first | (refine leF_s ?_; ((repeat (first | simp (maxSteps := 2000000) (disch := omega) only [go_sem, ↓reduceIte] | with_reducible refine vIf_t ?_ | with_reducible refine vIf_f ?_)); all_goals (try simp); all_goals (try omega)); done) | (refine leF_p ?_; ((repeat (first | simp (maxSteps := 2000000) (disch := omega) only [go_sem, ↓reduceIte] | with_reducible refine vIf_t ?_ | with_reducible refine vIf_f ?_)); all_goals (try simp); all_goals (try omega)); done))) ?_
    rintro a ⟨i1, i2⟩
    unfold pmC iS
    (repeat (first | simp (maxSteps := 2000000) (disch := omega) only [go_sem, ↓reduceIte] | with_reducible refine vIf_t ?_ | with_reducible refine vIf_f ?_))
    refine vIf_dec (fun h => ?_) (fun h => ?_)
    rotate_left
    · have ea : a = p.inf.length := by omega
      (repeat (first | simp (maxSteps := 2000000) (disch := omega) only [go_sem, ↓reduceIte] | with_reducible refine vIf_t ?_ | with_reducible refine vIf_f ?_))
      (refine retK_of ?_; (repeat (first | simp (maxSteps := 2000000) (disch := omega) only [go_sem, ↓reduceIte] | with_reducible refine vIf_t ?_ | with_reducible refine vIf_f ?_)))
      exact ⟨0, 0, 0, 3, rfl, .inr (.inl ⟨e, rfl, rfl, rfl, rfl, hfo.2 fun a' k' h => i2 a' k' (by omega) h⟩)⟩
    (repeat (first | simp (maxSteps := 2000000) (disch := omega) only [go_sem, ↓reduceIte] | with_reducible refine vIf_t ?_ | with_reducible refine vIf_f ?_))
    refine vIf_join1 ⟨53, 0, [(14, I p.inf.length), (15, I a), (6, I a), (7, I (ovV p a 0)), (1, .ptr 0 0)], [some ⟨6, pmC p⟩]⟩ (fun h0 => ?_) (fun h0 => ?_) ?_
    · have h0 : a = 0 := by simpa using h0
      subst h0
      have e0 : ovV p 0 0 = p.st := by rw [ovV_zero]; rfl
      rw [e0]
      unfold pmC iS
      (repeat (first | simp (maxSteps := 2000000) (disch := omega) only [go_sem, ↓reduceIte] | with_reducible refine vIf_t ?_ | with_reducible refine vIf_f ?_))
      refine jnF () trivial (by (first | (refine leF_s ?_; ((repeat (first | simp (maxSteps := 2000000) (disch := omega) only [go_sem, ↓reduceIte] | with_reducible refine vIf_t ?_ | with_reducible refine vIf_f ?_)); all_goals (try simp); all_goals (try omega)); done) | (refine leF_p ?_; ((repeat (first | simp (maxSteps := 2000000) (disch := omega) only [go_sem, ↓reduceIte] | with_reducible refine vIf_t ?_ | with_reducible refine vIf_f ?_)); all_goals (try simp); all_goals (try omega)); done)))
    · have h0 : a ≠ 0 := by simpa using h0
      have e0 : ovV p a 0 = p.lo := by rw [ovV_zero]; unfold ovW; rw [if_neg h0]
      rw [e0]
      unfold pmC iS
      (repeat (first | simp (maxSteps := 2000000) (disch := omega) only [go_sem, ↓reduceIte] | with_reducible refine vIf_t ?_ | with_reducible refine vIf_f ?_))
      refine jnF () trivial (by (first | (refine leF_s ?_; ((repeat (first | simp (maxSteps := 2000000) (disch := omega) only [go_sem, ↓reduceIte] | with_reducible refine vIf_t ?_ | with_reducible refine vIf_f ?_)); all_goals (try simp); all_goals (try omega)); done) | (refine leF_p ?_; ((repeat (first | simp (maxSteps := 2000000) (disch := omega) only [go_sem, ↓reduceIte] | with_reducible refine vIf_t ?_ | with_reducible refine vIf_f ?_)); all_goals (try simp); all_goals (try omega)); done)))
    unfold pmC iS
    (repeat (first | simp (maxSteps := 2000000) (disch := omega) only [go_sem, ↓reduceIte] | with_reducible refine vIf_t ?_ | with_reducible refine vIf_f ?_))
    refine vcLoop_invF (fun k : Nat => a + k ≤ p.inf.length ∧ ∀ j, j < k → ovV p a (j + 1) ≤ p.hi) (fun k => ⟨53, 0, [(8, I ((a : Int) + (k : Int))), (15, I a), (6, I a), (7, I (ovV p a k)), (1, .ptr 0 0), (14, I p.inf.length)], [some ⟨6, pmC p⟩]⟩) (fun k => p.inf.length - k) 0 ⟨by omega, fun j h => by omega⟩ (by unfold pmC iS; (first | (refine leF_s ?_; ((repeat (first | simp (maxSteps := 2000000) (disch := omega) only [go_sem, ↓reduceIte] | with_reducible refine vIf_t ?_ | with_reducible refine vIf_f ?_)); all_goals (try simp); all_goals (try omega)); done) | (refine leF_p ?_; ((repeat (first | simp (maxSteps := 2000000) (disch := omega) only [go_sem, ↓reduceIte] | with_reducible refine vIf_t ?_ | with_reducible refine vIf_f ?_)); all_goals (try simp); all_goals (try omega)); done))) ?_
    rintro k ⟨j1, j2⟩
    have hb := ovV_bd f a k j1
    have eak : ((a : Int) + (k : Int)).toNat = a + k := by omega
    unfold pmC iS
    (repeat (first | simp (maxSteps := 2000000) (disch := omega) only [go_sem, ↓reduceIte] | with_reducible refine vIf_t ?_ | with_reducible refine vIf_f ?_))
    by_cases h5 : a + k < p.inf.length
    · have d5 : decide ((a : Int) + (k : Int) < (p.inf.length : Int)) = true := decide_eq_true (by omega)
      have hinf := f.infg (a + k) h5
      have hs := ovV_succ p a k
      have hb2 := ovV_bd f a (k + 1) (by omega)
      have he := f.e
      (repeat (first | simp (maxSteps := 2000000) (disch := omega) only [go_sem, ↓reduceIte, d5] | with_reducible refine vIf_t ?_ | with_reducible refine vIf_f ?_))
      (refine vDraw_sch 9 [(0, false), (1, false), (3, false), (6, false), (2, false), (4, false), (5, false), (7, true), (8, false)] mixed (by kernel_rfl) ?_; simp only [List.cons_append, List.nil_append, List.map_cons, List.map_nil, nthO_zero, nthO_succ, List.drop_succ_cons, List.drop_zero, List.drop_nil]; (repeat (first | simp (maxSteps := 2000000) (disch := omega) only [go_sem, ↓reduceIte] | with_reducible refine vIf_t ?_ | with_reducible refine vIf_f ?_)))
      (repeat (first | simp (maxSteps := 2000000) (disch := omega) only [go_sem, ↓reduceIte, eak, ← hs] | with_reducible refine vIf_t ?_ | with_reducible refine vIf_f ?_))
      refine vIf_dec (fun h6 => ?_) (fun h6 => ?_)
      · (repeat (first | simp (maxSteps := 2000000) (disch := omega) only [go_sem, ↓reduceIte] | with_reducible refine vIf_t ?_ | with_reducible refine vIf_f ?_))
        (refine vDraw_sch 8 [(0, false), (1, false), (2, false), (3, false), (6, false), (7, false), (4, true), (5, false)] mixed (by kernel_rfl) ?_; simp only [List.cons_append, List.nil_append, List.map_cons, List.map_nil, nthO_zero, nthO_succ, List.drop_succ_cons, List.drop_zero, List.drop_nil]; (repeat (first | simp (maxSteps := 2000000) (disch := omega) only [go_sem, ↓reduceIte] | with_reducible refine vIf_t ?_ | with_reducible refine vIf_f ?_)))
        (repeat (first | simp (maxSteps := 2000000) (disch := omega) only [go_sem, ↓reduceIte] | with_reducible refine vIf_t ?_ | with_reducible refine vIf_f ?_))
        (refine retK_of ?_; (repeat (first | simp (maxSteps := 2000000) (disch := omega) only [go_sem, ↓reduceIte] | with_reducible refine vIf_t ?_ | with_reducible refine vIf_f ?_)))
        exact ⟨a, a + k, _, 0, by simp, .inr (.inr ⟨e, rfl, by
          cases e9 : feB p with
          | false => rfl
          | true => have := hfo.1 e9 a k h5; omega, k, rfl, ⟨h5, h6, j2, i2⟩, rfl⟩)⟩
      · have e7 : (a : Int) + (k : Int) + 1 = (a : Int) + ((k + 1 : Nat) : Int) := by omega
        (repeat (first | simp (maxSteps := 2000000) (disch := omega) only [go_sem, ↓reduceIte, e7] | with_reducible refine vIf_t ?_ | with_reducible refine vIf_f ?_))
        refine againF (k + 1) ⟨by omega, fun j hj => ?_⟩ (by omega) (by rw [hs]; (first | (refine leF_s ?_; ((repeat (first | simp (maxSteps := 2000000) (disch := omega) only [go_sem, ↓reduceIte] | with_reducible refine vIf_t ?_ | with_reducible refine vIf_f ?_)); all_goals (try simp); all_goals (try omega)); done) | (refine leF_p ?_; ((repeat (first | simp (maxSteps := 2000000) (disch := omega) only [go_sem, ↓reduceIte] | with_reducible refine vIf_t ?_ | with_reducible refine vIf_f ?_)); all_goals (try simp); all_goals (try omega)); done)))
        by_cases ej : j = k
        · subst ej; omega
        · exact j2 j (by omega)
    · have d5 : decide ((a : Int) + (k : Int) < (p.inf.length : Int)) = false := decide_eq_false (by omega)
      (repeat (first | simp (maxSteps := 2000000) (disch := omega) only [go_sem, ↓reduceIte, d5] | with_reducible refine vIf_t ?_ | with_reducible refine vIf_f ?_))
      refine againF (a + 1) ⟨by omega, fun a' k' h1 h2 => ?_⟩ (by omega) (by (first | (refine leF_s ?_; ((repeat (first | simp (maxSteps := 2000000) (disch := omega) only [go_sem, ↓reduceIte] | with_reducible refine vIf_t ?_ | with_reducible refine vIf_f ?_)); all_goals (try simp); all_goals (try omega)); done) | (refine leF_p ?_; ((repeat (first | simp (maxSteps := 2000000) (disch := omega) only [go_sem, ↓reduceIte] | with_reducible refine vIf_t ?_ | with_reducible refine vIf_f ?_)); all_goals (try simp); all_goals (try omega)); done)))
      by_cases ea : a' = a
      · subst ea; exact j2 k' (by omega)
      · exact i2 a' k' (by omega) h2
end Go.Proofs.YtpjjjonplikilaaGreat
namespace Go.Proofs.YtpjjjonplikilaaGreat
open Go.AG

structure Pc where
  id : Int
  owner : Int
  area : Int
  cls : Int
  deriving Inhabited, DecidableEq
def Pc.cells (d : Pc) : List V := [.sc (.int .i64 d.id), .sc (.int .i64 d.owner), .sc (.int .i64 d.area), .sc (.int .i64 d.cls)]
def cPc (ds : List Pc) : List V := ds.flatMap Pc.cells
def gPc (ds : List Pc) (i : Nat) : Pc := ds.getD i default
theorem gPc_lt (ds : List Pc) (i : Nat) (h : i < ds.length) : gPc ds i = ds[i] := by simp [gPc, h]
theorem gPc_mem (ds : List Pc) (i : Nat) (h : i < ds.length) : gPc ds i ∈ ds := by rw [gPc_lt ds i h]; exact List.getElem_mem h
theorem gPc_take_succ (ds : List Pc) (i : Nat) (h : i < ds.length) : ds.take (i + 1) = ds.take i ++ [gPc ds i] := by rw [List.take_succ_eq_append_getElem h, gPc_lt ds i h]
theorem gPc_set_same (ds : List Pc) (i : Nat) (d : Pc) (h : i < ds.length) : gPc (ds.set i d) i = d := by simp [gPc, h]
@[go_sem] theorem length_cPc (ds : List Pc) : (cPc ds).length = ds.length * 4 := (rsLen Pc.cells 4 (fun _ => rfl) ds)
@[go_sem] theorem cPc_nil : cPc [] = [] := rfl
@[go_sem] theorem cPc_append (xs ys : List Pc) : cPc xs ++ cPc ys = cPc (xs ++ ys) := by simp [cPc]
@[go_sem] theorem cPc_snoc (xs : List Pc) (id : Int) (owner : Int) (area : Int) (cls : Int) : cPc xs ++ [.sc (.int .i64 id), .sc (.int .i64 owner), .sc (.int .i64 area), .sc (.int .i64 cls)] = cPc (xs ++ [⟨id, owner, area, cls⟩]) := by simp [cPc, Pc.cells]
@[go_sem] theorem cPc_take (ds : List Pc) (n : Nat) : (cPc ds).take (n * 4) = cPc (ds.take n) := rsTake Pc.cells 4 (fun _ => rfl) ds n
@[go_sem] theorem cPc_take_all (ds : List Pc) (n : Nat) (h : ds.length * 4 ≤ n) : (cPc ds).take n = cPc ds := List.take_of_length_le (by rw [length_cPc]; exact h)
@[go_sem] theorem cPc_drop (ds : List Pc) (n : Nat) : (cPc ds).drop (n * 4) = cPc (ds.drop n) := rsDrop Pc.cells 4 (fun _ => rfl) ds n
@[go_sem high] theorem vPart_cPc (ds : List Pc) (i : Nat) (K : V → Prop) : vPart true 4 (cPc ds) (i * 4) K = grd (i < ds.length) (K (.agg [.sc (.int .i64 (gPc ds i).id), .sc (.int .i64 (gPc ds i).owner), .sc (.int .i64 (gPc ds i).area), .sc (.int .i64 (gPc ds i).cls)])) := rsPart Pc.cells 4 (fun _ => rfl) (by omega) ds i K
@[go_sem] theorem cPc_at (ds : List Pc) (n : Nat) (h : n < ds.length) : (cPc (ds.drop n)).take 4 = [.sc (.int .i64 (gPc ds n).id), .sc (.int .i64 (gPc ds n).owner), .sc (.int .i64 (gPc ds n).area), .sc (.int .i64 (gPc ds n).cls)] := by rw [List.drop_eq_getElem_cons h, gPc_lt ds n h]; rfl
@[go_sem] theorem cPc_at0 (ds : List Pc) (h : 0 < ds.length) : (cPc ds).take 4 = [.sc (.int .i64 (gPc ds 0).id), .sc (.int .i64 (gPc ds 0).owner), .sc (.int .i64 (gPc ds 0).area), .sc (.int .i64 (gPc ds 0).cls)] := by cases ds with | nil => simp at h | cons x r => rfl
@[go_sem] theorem vAt_cPc_0 (ds : List Pc) (i : Nat) (K : V → Prop) : vAt (cPc ds) (i * 4) K = grd (i < ds.length) (K (.sc (.int .i64 (gPc ds i).id))) := rsAt Pc.cells 4 (fun _ => rfl) ds i 0 (by omega) (fun d => .sc (.int .i64 d.id)) (fun _ => rfl) K
@[go_sem] theorem wr_cPc_0 (ds : List Pc) (i : Nat) (x : Int) (h : i < ds.length) : wr (cPc ds) (i * 4) [.sc (.int .i64 x)] = cPc (ds.set i {gPc ds i with id := x}) := rsWr Pc.cells 4 (fun _ => rfl) ds i 0 (by omega) h _ _ rfl
@[go_sem] theorem vAt_cPc_1 (ds : List Pc) (i : Nat) (K : V → Prop) : vAt (cPc ds) (i * 4 + 1) K = grd (i < ds.length) (K (.sc (.int .i64 (gPc ds i).owner))) := rsAt Pc.cells 4 (fun _ => rfl) ds i 1 (by omega) (fun d => .sc (.int .i64 d.owner)) (fun _ => rfl) K
@[go_sem] theorem wr_cPc_1 (ds : List Pc) (i : Nat) (x : Int) (h : i < ds.length) : wr (cPc ds) (i * 4 + 1) [.sc (.int .i64 x)] = cPc (ds.set i {gPc ds i with owner := x}) := rsWr Pc.cells 4 (fun _ => rfl) ds i 1 (by omega) h _ _ rfl
@[go_sem] theorem vAt_cPc_2 (ds : List Pc) (i : Nat) (K : V → Prop) : vAt (cPc ds) (i * 4 + 2) K = grd (i < ds.length) (K (.sc (.int .i64 (gPc ds i).area))) := rsAt Pc.cells 4 (fun _ => rfl) ds i 2 (by omega) (fun d => .sc (.int .i64 d.area)) (fun _ => rfl) K
@[go_sem] theorem wr_cPc_2 (ds : List Pc) (i : Nat) (x : Int) (h : i < ds.length) : wr (cPc ds) (i * 4 + 2) [.sc (.int .i64 x)] = cPc (ds.set i {gPc ds i with area := x}) := rsWr Pc.cells 4 (fun _ => rfl) ds i 2 (by omega) h _ _ rfl
@[go_sem] theorem vAt_cPc_3 (ds : List Pc) (i : Nat) (K : V → Prop) : vAt (cPc ds) (i * 4 + 3) K = grd (i < ds.length) (K (.sc (.int .i64 (gPc ds i).cls))) := rsAt Pc.cells 4 (fun _ => rfl) ds i 3 (by omega) (fun d => .sc (.int .i64 d.cls)) (fun _ => rfl) K
@[go_sem] theorem wr_cPc_3 (ds : List Pc) (i : Nat) (x : Int) (h : i < ds.length) : wr (cPc ds) (i * 4 + 3) [.sc (.int .i64 x)] = cPc (ds.set i {gPc ds i with cls := x}) := rsWr Pc.cells 4 (fun _ => rfl) ds i 3 (by omega) h _ _ rfl
@[go_sem] theorem wr_cPc_0_set (ds : List Pc) (i i0 : Nat) (d : Pc) (x : Int) (h : i < ds.length) : wr (cPc (ds.set i0 d)) (i * 4) [.sc (.int .i64 x)] = cPc ((ds.set i0 d).set i {gPc (ds.set i0 d) i with id := x}) := wr_cPc_0 _ _ _ (by rw [List.length_set]; exact h)
@[go_sem] theorem wr_cPc_1_set (ds : List Pc) (i i0 : Nat) (d : Pc) (x : Int) (h : i < ds.length) : wr (cPc (ds.set i0 d)) (i * 4 + 1) [.sc (.int .i64 x)] = cPc ((ds.set i0 d).set i {gPc (ds.set i0 d) i with owner := x}) := wr_cPc_1 _ _ _ (by rw [List.length_set]; exact h)
@[go_sem] theorem wr_cPc_2_set (ds : List Pc) (i i0 : Nat) (d : Pc) (x : Int) (h : i < ds.length) : wr (cPc (ds.set i0 d)) (i * 4 + 2) [.sc (.int .i64 x)] = cPc ((ds.set i0 d).set i {gPc (ds.set i0 d) i with area := x}) := wr_cPc_2 _ _ _ (by rw [List.length_set]; exact h)
@[go_sem] theorem wr_cPc_3_set (ds : List Pc) (i i0 : Nat) (d : Pc) (x : Int) (h : i < ds.length) : wr (cPc (ds.set i0 d)) (i * 4 + 3) [.sc (.int .i64 x)] = cPc ((ds.set i0 d).set i {gPc (ds.set i0 d) i with cls := x}) := wr_cPc_3 _ _ _ (by rw [List.length_set]; exact h)
attribute [go_sem] gPc_set_same
@[go_sem] theorem wr_cPc_all (ds : List Pc) (i : Nat) (id : Int) (owner : Int) (area : Int) (cls : Int) (h : i < ds.length) : wr (cPc ds) (i * 4) [.sc (.int .i64 id), .sc (.int .i64 owner), .sc (.int .i64 area), .sc (.int .i64 cls)] = cPc (ds.set i ⟨id, owner, area, cls⟩) := rsWrAll Pc.cells 4 (fun _ => rfl) ds i h ⟨id, owner, area, cls⟩
@[go_sem] theorem imm_cPc (ds : List Pc) : V.immL (cPc ds) = true := by induction ds with | nil => rfl | cons x xs ih => exact ih
@[go_sem] theorem one_cPc (ds : List Pc) : V.oneL (cPc ds) = true := by induction ds with | nil => rfl | cons x xs ih => exact ih
@[go_sem] theorem noref_cPc (ds : List Pc) : V.norefL (cPc ds) = true := by induction ds with | nil => rfl | cons x xs ih => exact ih
@[go_sem] theorem flat_cPc (ds : List Pc) : V.flatL (cPc ds) = true := by induction ds with | nil => rfl | cons x xs ih => exact ih
@[go_sem] theorem kill_cPc (p : Nat → Bool) (ds : List Pc) : V.killL p (cPc ds) = cPc ds := killL_noref p _ (noref_cPc ds)
@[go_sem] theorem frz_cPc (f : Nat → Option Ob) (ds : List Pc) : V.frzL f (cPc ds) = cPc ds := frzL_noref f _ (noref_cPc ds)
@[go_sem] theorem ren_cPc (g : Nat → Nat) (ds : List Pc) : V.renL g (cPc ds) = cPc ds := by induction ds with | nil => rfl | cons x xs ih => exact congrArg (x.cells ++ ·) ih
@[go_sem] theorem reps_cPc (n : Nat) : reps n [V.sc (.int .i64 0), V.sc (.int .i64 0), V.sc (.int .i64 0), V.sc (.int .i64 0)] = cPc (List.replicate n ⟨0, 0, 0, 0⟩) := rsReps Pc.cells n ⟨0, 0, 0, 0⟩
@[go_sem] theorem map_cPc_inj (xs ys : List Pc) : (cPc xs = cPc ys) = (xs = ys) := propext ⟨rsInj Pc.cells 4 (fun _ => rfl) (by omega) (fun a b h => by cases a; cases b; simpa [Pc.cells] using h) xs ys, fun h => by rw [h]⟩
@[go_sem] theorem cPc_rep0 (d : Pc) : cPc (List.replicate 0 d) = [] := rfl
@[go_sem] theorem wr_cPc_rep1 (d : Pc) (id : Int) (owner : Int) (area : Int) (cls : Int) : wr (cPc (List.replicate 1 d)) 0 [.sc (.int .i64 id), .sc (.int .i64 owner), .sc (.int .i64 area), .sc (.int .i64 cls)] = cPc [⟨id, owner, area, cls⟩] := rfl
@[go_sem] theorem cPc_take1 (d : Pc) : (cPc [d]).take 4 = cPc [d] := rfl
theorem l19New_e {code : List Int} (g : SrOk code) (σ : Sr) (id : Int) (hp : σ.pos ≤ 10000000000) : ACalls Tryz.prog 89 [.ptr 0 0, I id] [srO code σ]
    (fun r o => ∃ (p : Pc) (σ' : Sr), r = .agg p.cells ∧ o = [srO code σ'] ∧ σ'.pos ≤ σ.pos + 6) := by
  refine ACalls.of_vc Tryz.func89 rfl (by decide) 19 rfl [.cell 4 125] rfl (by simp) ?_
  (repeat (first | simp (maxSteps := 2000000) (disch := omega) only [go_sem, ↓reduceIte] | with_reducible refine vIf_t ?_ | with_reducible refine vIf_f ?_))
  (refine vCallX_io [0] ?_; (repeat (first | simp (maxSteps := 2000000) (disch := omega) only [go_sem, ↓reduceIte] | with_reducible refine vIf_t ?_ | with_reducible refine vIf_f ?_)); refine vCallIO_ex (pick_e g 5 σ (by omega)) (by simp (disch := omega) only [go_sem]) (by simp (disch := omega) only [go_sem]) (by first | rfl | (simp (disch := omega) only [go_sem])) (by first | rfl | (simp (disch := omega) only [go_sem])) (by first | rfl | (simp (disch := omega) only [go_sem])) ?_); rintro _ _ ⟨v1, σ1, rfl, rfl, h1, h2, h3⟩; (refine ⟨by first | (simp (disch := omega) only [go_sem]) | trivial, ?_⟩; (repeat (first | simp (maxSteps := 2000000) (disch := omega) only [go_sem, ↓reduceIte] | with_reducible refine vIf_t ?_ | with_reducible refine vIf_f ?_)))
  (refine vCallX_io [0] ?_; (repeat (first | simp (maxSteps := 2000000) (disch := omega) only [go_sem, ↓reduceIte] | with_reducible refine vIf_t ?_ | with_reducible refine vIf_f ?_)); refine vCallIO_ex (pick_e g 90 σ1 (by omega)) (by simp (disch := omega) only [go_sem]) (by simp (disch := omega) only [go_sem]) (by first | rfl | (simp (disch := omega) only [go_sem])) (by first | rfl | (simp (disch := omega) only [go_sem])) (by first | rfl | (simp (disch := omega) only [go_sem])) ?_); rintro _ _ ⟨v2, σ2, rfl, rfl, h4, h5, h6⟩; (refine ⟨by first | (simp (disch := omega) only [go_sem]) | trivial, ?_⟩; (repeat (first | simp (maxSteps := 2000000) (disch := omega) only [go_sem, ↓reduceIte] | with_reducible refine vIf_t ?_ | with_reducible refine vIf_f ?_)))
  (refine vCallX_io [0] ?_; (repeat (first | simp (maxSteps := 2000000) (disch := omega) only [go_sem, ↓reduceIte] | with_reducible refine vIf_t ?_ | with_reducible refine vIf_f ?_)); refine vCallIO_ex (pick_e g 4 σ2 (by omega)) (by simp (disch := omega) only [go_sem]) (by simp (disch := omega) only [go_sem]) (by first | rfl | (simp (disch := omega) only [go_sem])) (by first | rfl | (simp (disch := omega) only [go_sem])) (by first | rfl | (simp (disch := omega) only [go_sem])) ?_); rintro _ _ ⟨v3, σ3, rfl, rfl, h7, h8, h9⟩; (refine ⟨by first | (simp (disch := omega) only [go_sem]) | trivial, ?_⟩; (repeat (first | simp (maxSteps := 2000000) (disch := omega) only [go_sem, ↓reduceIte] | with_reducible refine vIf_t ?_ | with_reducible refine vIf_f ?_)))
  (refine retK_of ?_; (repeat (first | simp (maxSteps := 2000000) (disch := omega) only [go_sem, ↓reduceIte] | with_reducible refine vIf_t ?_ | with_reducible refine vIf_f ?_)))
  exact ⟨⟨id, v1, _, v3⟩, σ3, rfl, rfl, by omega⟩
theorem l19Draw_e {code : List Int} (g : SrOk code) (σ : Sr) (hp : σ.pos ≤ 1000000000) : ACalls Tryz.prog 88 [.ptr 0 0] [srO code σ]
    (fun r o => ∃ (ds : List Pc) (σ' : Sr), r = .ref 1 0 ds.length ∧ o = [srO code σ', some ⟨4, cPc ds⟩] ∧ ds.length ≤ 8 ∧ σ'.pos ≤ σ.pos + 100) := by
  refine ACalls.of_vc Tryz.func88 rfl (by decide) 28 rfl [.tmp 2] rfl (by simp) ?_
  (repeat (first | simp (maxSteps := 2000000) (disch := omega) only [go_sem, ↓reduceIte] | with_reducible refine vIf_t ?_ | with_reducible refine vIf_f ?_))
  (refine vCallX_io [0] ?_; (repeat (first | simp (maxSteps := 2000000) (disch := omega) only [go_sem, ↓reduceIte] | with_reducible refine vIf_t ?_ | with_reducible refine vIf_f ?_)); refine vCallIO_ex (pick_e g 3 σ (by omega)) (by simp (disch := omega) only [go_sem]) (by simp (disch := omega) only [go_sem]) (by first | rfl | (simp (disch := omega) only [go_sem])) (by first | rfl | (simp (disch := omega) only [go_sem])) (by first | rfl | (simp (disch := omega) only [go_sem])) ?_); rintro _ _ ⟨v1, σ1, rfl, rfl, h1, h2, h3⟩; (refine ⟨by first | (simp (disch := omega) only [go_sem]) | trivial, ?_⟩; (repeat (first | simp (maxSteps := 2000000) (disch := omega) only [go_sem, ↓reduceIte] | with_reducible refine vIf_t ?_ | with_reducible refine vIf_f ?_)))
  (refine vCallX_io [0] ?_; (repeat (first | simp (maxSteps := 2000000) (disch := omega) only [go_sem, ↓reduceIte] | with_reducible refine vIf_t ?_ | with_reducible refine vIf_f ?_)); refine vCallIO_ex (pick_e g 8 σ1 (by omega)) (by simp (disch := omega) only [go_sem]) (by simp (disch := omega) only [go_sem]) (by first | rfl | (simp (disch := omega) only [go_sem])) (by first | rfl | (simp (disch := omega) only [go_sem])) (by first | rfl | (simp (disch := omega) only [go_sem])) ?_); rintro _ _ ⟨v2, σ2, rfl, rfl, h4, h5, h6⟩; (refine ⟨by first | (simp (disch := omega) only [go_sem]) | trivial, ?_⟩; (repeat (first | simp (maxSteps := 2000000) (disch := omega) only [go_sem, ↓reduceIte] | with_reducible refine vIf_t ?_ | with_reducible refine vIf_f ?_)))
  refine vcLoop_inv (fun x : Int × List Pc × Sr × Int => 0 ≤ x.1 ∧ x.2.1.length + x.1.toNat ≤ 8 ∧ x.2.2.1.pos + 8 * x.1.toNat ≤ σ.pos + 68) (fun x => ⟨28, 1, [(5, I x.1), (0, .ptr 0 0), (4, I x.2.2.2), (3, .ref 1 0 x.2.1.length)], [srO code x.2.2.1, some ⟨4, cPc x.2.1⟩]⟩) (fun x => x.1.toNat) (v2, [], σ2, 1 + v1) ⟨h4, by simp; omega, by simp; omega⟩ (by (repeat (first | simp (maxSteps := 2000000) (disch := omega) only [go_sem, ↓reduceIte] | with_reducible refine vIf_t ?_ | with_reducible refine vIf_f ?_)); omega) ?_
  rintro ⟨k, ds, σ', id⟩ ⟨g1, g2, g3⟩
  simp only at g1 g2 g3
  (repeat (first | simp (maxSteps := 2000000) (disch := omega) only [go_sem, ↓reduceIte] | with_reducible refine vIf_t ?_ | with_reducible refine vIf_f ?_))
  refine vIf_dec (fun h => ?_) (fun h => ?_)
  · (repeat (first | simp (maxSteps := 2000000) (disch := omega) only [go_sem, ↓reduceIte] | with_reducible refine vIf_t ?_ | with_reducible refine vIf_f ?_))
    (refine vCallX_io [0] ?_; (repeat (first | simp (maxSteps := 2000000) (disch := omega) only [go_sem, ↓reduceIte] | with_reducible refine vIf_t ?_ | with_reducible refine vIf_f ?_)); refine vCallIO_ex (l19New_e g σ' id (by omega)) (by simp (disch := omega) only [go_sem]) (by simp (disch := omega) only [go_sem]) (by first | rfl | (simp (disch := omega) only [go_sem])) (by first | rfl | (simp (disch := omega) only [go_sem])) (by first | rfl | (simp (disch := omega) only [go_sem])) ?_); rintro _ _ ⟨p, σ3, rfl, rfl, h7⟩; (refine ⟨by first | (simp (disch := omega) only [go_sem]) | trivial, ?_⟩; (repeat (first | simp (maxSteps := 2000000) (disch := omega) only [go_sem, ↓reduceIte] | with_reducible refine vIf_t ?_ | with_reducible refine vIf_f ?_)))
    unfold Pc.cells
    (repeat (first | simp (maxSteps := 2000000) (disch := omega) only [go_sem, ↓reduceIte] | with_reducible refine vIf_t ?_ | with_reducible refine vIf_f ?_))
    (refine vCallX_io [0] ?_; (repeat (first | simp (maxSteps := 2000000) (disch := omega) only [go_sem, ↓reduceIte] | with_reducible refine vIf_t ?_ | with_reducible refine vIf_f ?_)); refine vCallIO_ex (pick_e g 3 σ3 (by omega)) (by simp (disch := omega) only [go_sem]) (by simp (disch := omega) only [go_sem]) (by first | rfl | (simp (disch := omega) only [go_sem])) (by first | rfl | (simp (disch := omega) only [go_sem])) (by first | rfl | (simp (disch := omega) only [go_sem])) ?_); rintro _ _ ⟨v4, σ4, rfl, rfl, h8, h9, h10⟩; (refine ⟨by first | (simp (disch := omega) only [go_sem]) | trivial, ?_⟩; (repeat (first | simp (maxSteps := 2000000) (disch := omega) only [go_sem, ↓reduceIte] | with_reducible refine vIf_t ?_ | with_reducible refine vIf_f ?_)))
    refine again (k - 1, ds ++ [p], σ4, IntKind.wrap .i64 (id + (1 + v4))) ⟨by omega, by simp; omega, by simp; omega⟩ (by simp; omega) ?_
    ((repeat (first | simp (maxSteps := 2000000) (disch := omega) only [go_sem, ↓reduceIte] | with_reducible refine vIf_t ?_ | with_reducible refine vIf_f ?_)); all_goals (try simp); all_goals (try omega))
  · (repeat (first | simp (maxSteps := 2000000) (disch := omega) only [go_sem, ↓reduceIte] | with_reducible refine vIf_t ?_ | with_reducible refine vIf_f ?_))
    (refine retK_of ?_; (repeat (first | simp (maxSteps := 2000000) (disch := omega) only [go_sem, ↓reduceIte] | with_reducible refine vIf_t ?_ | with_reducible refine vIf_f ?_)))
    exact ⟨ds, σ', rfl, rfl, by omega, by omega⟩
theorem l19Spoil_e {code : List Int} (g : SrOk code) (σ : Sr) (ds : List Pc) (i : Nat) (hp : σ.pos ≤ 10000000000) (hi : i < ds.length) (hl : ds.length ≤ 10000000) :
    ACalls Tryz.prog 90 [.ptr 0 0, .ptr 1 (i * 4)] [srO code σ, some ⟨4, cPc ds⟩]
    (fun r o => ∃ (ds' : List Pc) (σ' : Sr), r = .tup [] ∧ o = [srO code σ', some ⟨4, cPc ds'⟩] ∧ ds'.length = ds.length ∧ σ'.pos ≤ σ.pos + 4) := by
  refine ACalls.of_vc Tryz.func90 rfl (by decide) 38 rfl [] rfl (by simp) ?_
  (repeat (first | simp (maxSteps := 2000000) (disch := omega) only [go_sem, ↓reduceIte] | with_reducible refine vIf_t ?_ | with_reducible refine vIf_f ?_))
  (refine vCallX_io [0] ?_; (repeat (first | simp (maxSteps := 2000000) (disch := omega) only [go_sem, ↓reduceIte] | with_reducible refine vIf_t ?_ | with_reducible refine vIf_f ?_)); refine vCallIO_ex (pick_e g 4 σ (by omega)) (by simp (disch := omega) only [go_sem]) (by simp (disch := omega) only [go_sem]) (by first | rfl | (simp (disch := omega) only [go_sem])) (by first | rfl | (simp (disch := omega) only [go_sem])) (by first | rfl | (simp (disch := omega) only [go_sem])) ?_); rintro _ _ ⟨v1, σ1, rfl, rfl, h1, h2, h3⟩; (refine ⟨by first | (simp (disch := omega) only [go_sem]) | trivial, ?_⟩; (repeat (first | simp (maxSteps := 2000000) (disch := omega) only [go_sem, ↓reduceIte] | with_reducible refine vIf_t ?_ | with_reducible refine vIf_f ?_)))
  refine vIf_beq (fun h => ?_) (fun h => ?_)
  · (repeat (first | simp (maxSteps := 2000000) (disch := omega) only [go_sem, ↓reduceIte] | with_reducible refine vIf_t ?_ | with_reducible refine vIf_f ?_))
    (refine vCallX_io [0, 2] ?_; (repeat (first | simp (maxSteps := 2000000) (disch := omega) only [go_sem, ↓reduceIte] | with_reducible refine vIf_t ?_ | with_reducible refine vIf_f ?_)); refine vCallIO_ex (among_l g [0, 1, 9999, 10000, -9223372036854775808] σ1 (by omega) (by simp) _ rfl _ rfl) (by simp (disch := omega) only [go_sem]) (by simp (disch := omega) only [go_sem]) (by first | rfl | (simp (disch := omega) only [go_sem])) (by first | rfl | (simp (disch := omega) only [go_sem])) (by first | rfl | (simp (disch := omega) only [go_sem])) ?_); rintro _ _ ⟨v2, σ2, rfl, rfl, h4, h5⟩; (refine ⟨by first | (simp (disch := omega) only [go_sem]) | trivial, ?_⟩; (repeat (first | simp (maxSteps := 2000000) (disch := omega) only [go_sem, ↓reduceIte] | with_reducible refine vIf_t ?_ | with_reducible refine vIf_f ?_)))
    (refine retK_of ?_; (repeat (first | simp (maxSteps := 2000000) (disch := omega) only [go_sem, ↓reduceIte] | with_reducible refine vIf_t ?_ | with_reducible refine vIf_f ?_)))
    exact ⟨_, σ2, rfl, by simp, by omega⟩
  (repeat (first | simp (maxSteps := 2000000) (disch := omega) only [go_sem, ↓reduceIte] | with_reducible refine vIf_t ?_ | with_reducible refine vIf_f ?_))
  refine vIf_beq (fun h => ?_) (fun h => ?_)
  · (repeat (first | simp (maxSteps := 2000000) (disch := omega) only [go_sem, ↓reduceIte] | with_reducible refine vIf_t ?_ | with_reducible refine vIf_f ?_))
    (refine vCallX_io [0, 2] ?_; (repeat (first | simp (maxSteps := 2000000) (disch := omega) only [go_sem, ↓reduceIte] | with_reducible refine vIf_t ?_ | with_reducible refine vIf_f ?_)); refine vCallIO_ex (among_l g [-1, 0, 39, 40] σ1 (by omega) (by simp) _ rfl _ rfl) (by simp (disch := omega) only [go_sem]) (by simp (disch := omega) only [go_sem]) (by first | rfl | (simp (disch := omega) only [go_sem])) (by first | rfl | (simp (disch := omega) only [go_sem])) (by first | rfl | (simp (disch := omega) only [go_sem])) ?_); rintro _ _ ⟨v2, σ2, rfl, rfl, h4, h5⟩; (refine ⟨by first | (simp (disch := omega) only [go_sem]) | trivial, ?_⟩; (repeat (first | simp (maxSteps := 2000000) (disch := omega) only [go_sem, ↓reduceIte] | with_reducible refine vIf_t ?_ | with_reducible refine vIf_f ?_)))
    (refine retK_of ?_; (repeat (first | simp (maxSteps := 2000000) (disch := omega) only [go_sem, ↓reduceIte] | with_reducible refine vIf_t ?_ | with_reducible refine vIf_f ?_)))
    exact ⟨_, σ2, rfl, by simp, by omega⟩
  (repeat (first | simp (maxSteps := 2000000) (disch := omega) only [go_sem, ↓reduceIte] | with_reducible refine vIf_t ?_ | with_reducible refine vIf_f ?_))
  refine vIf_beq (fun h => ?_) (fun h => ?_)
  · (repeat (first | simp (maxSteps := 2000000) (disch := omega) only [go_sem, ↓reduceIte] | with_reducible refine vIf_t ?_ | with_reducible refine vIf_f ?_))
    (refine vCallX_io [0, 2] ?_; (repeat (first | simp (maxSteps := 2000000) (disch := omega) only [go_sem, ↓reduceIte] | with_reducible refine vIf_t ?_ | with_reducible refine vIf_f ?_)); refine vCallIO_ex (among_l g [0, 1, 10000000, 10000001] σ1 (by omega) (by simp) _ rfl _ rfl) (by simp (disch := omega) only [go_sem]) (by simp (disch := omega) only [go_sem]) (by first | rfl | (simp (disch := omega) only [go_sem])) (by first | rfl | (simp (disch := omega) only [go_sem])) (by first | rfl | (simp (disch := omega) only [go_sem])) ?_); rintro _ _ ⟨v2, σ2, rfl, rfl, h4, h5⟩; (refine ⟨by first | (simp (disch := omega) only [go_sem]) | trivial, ?_⟩; (repeat (first | simp (maxSteps := 2000000) (disch := omega) only [go_sem, ↓reduceIte] | with_reducible refine vIf_t ?_ | with_reducible refine vIf_f ?_)))
    (refine retK_of ?_; (repeat (first | simp (maxSteps := 2000000) (disch := omega) only [go_sem, ↓reduceIte] | with_reducible refine vIf_t ?_ | with_reducible refine vIf_f ?_)))
    exact ⟨_, σ2, rfl, by simp, by omega⟩
  (repeat (first | simp (maxSteps := 2000000) (disch := omega) only [go_sem, ↓reduceIte] | with_reducible refine vIf_t ?_ | with_reducible refine vIf_f ?_))
  (refine vCallX_io [0, 2] ?_; (repeat (first | simp (maxSteps := 2000000) (disch := omega) only [go_sem, ↓reduceIte] | with_reducible refine vIf_t ?_ | with_reducible refine vIf_f ?_)); refine vCallIO_ex (among_l g [-1, 0, 3, 4] σ1 (by omega) (by simp) _ rfl _ rfl) (by simp (disch := omega) only [go_sem]) (by simp (disch := omega) only [go_sem]) (by first | rfl | (simp (disch := omega) only [go_sem])) (by first | rfl | (simp (disch := omega) only [go_sem])) (by first | rfl | (simp (disch := omega) only [go_sem])) ?_); rintro _ _ ⟨v2, σ2, rfl, rfl, h4, h5⟩; (refine ⟨by first | (simp (disch := omega) only [go_sem]) | trivial, ?_⟩; (repeat (first | simp (maxSteps := 2000000) (disch := omega) only [go_sem, ↓reduceIte] | with_reducible refine vIf_t ?_ | with_reducible refine vIf_f ?_)))
  (refine retK_of ?_; (repeat (first | simp (maxSteps := 2000000) (disch := omega) only [go_sem, ↓reduceIte] | with_reducible refine vIf_t ?_ | with_reducible refine vIf_f ?_)))
  exact ⟨_, σ2, rfl, by simp, by omega⟩
set_option maxHeartbeats 4000000 in
theorem l19Bent_e {code : List Int} (g : SrOk code) (σ : Sr) (hp : σ.pos ≤ 100000000) : ACalls Tryz.prog 52 [.ptr 0 0] [srO code σ]
    (fun r o => ∃ (ds : List Pc) (σ' : Sr), r = .ref 1 0 ds.length ∧ o = [srO code σ', some ⟨4, cPc ds⟩] ∧ ds.length ≤ 61 ∧ σ'.pos ≤ σ.pos + 1000) := by
  refine ACalls.of_vc Tryz.func52 rfl (by decide) 41 rfl [.tmp 2] rfl (by simp) ?_
  (repeat (first | simp (maxSteps := 2000000) (disch := omega) only [go_sem, ↓reduceIte] | with_reducible refine vIf_t ?_ | with_reducible refine vIf_f ?_))
  (refine vCallX_io [0] ?_; (repeat (first | simp (maxSteps := 2000000) (disch := omega) only [go_sem, ↓reduceIte] | with_reducible refine vIf_t ?_ | with_reducible refine vIf_f ?_)); refine vCallIO_ex (l19Draw_e g σ (by omega)) (by simp (disch := omega) only [go_sem]) (by simp (disch := omega) only [go_sem]) (by first | rfl | (simp (disch := omega) only [go_sem])) (by first | rfl | (simp (disch := omega) only [go_sem])) (by first | rfl | (simp (disch := omega) only [go_sem])) ?_); rintro _ _ ⟨ds, σ1, rfl, rfl, h1, h2⟩; (refine ⟨by first | (simp (disch := omega) only [go_sem]) | trivial, ?_⟩; (repeat (first | simp (maxSteps := 2000000) (disch := omega) only [go_sem, ↓reduceIte] | with_reducible refine vIf_t ?_ | with_reducible refine vIf_f ?_)))
  (refine vCallX_io [0] ?_; (repeat (first | simp (maxSteps := 2000000) (disch := omega) only [go_sem, ↓reduceIte] | with_reducible refine vIf_t ?_ | with_reducible refine vIf_f ?_)); refine vCallIO_ex (one_e g 24 σ1 (by omega)) (by simp (disch := omega) only [go_sem]) (by simp (disch := omega) only [go_sem]) (by first | rfl | (simp (disch := omega) only [go_sem])) (by first | rfl | (simp (disch := omega) only [go_sem])) (by first | rfl | (simp (disch := omega) only [go_sem])) ?_); rintro _ _ ⟨b, σ2, rfl, rfl, h3⟩; (refine ⟨by first | (simp (disch := omega) only [go_sem]) | trivial, ?_⟩; (repeat (first | simp (maxSteps := 2000000) (disch := omega) only [go_sem, ↓reduceIte] | with_reducible refine vIf_t ?_ | with_reducible refine vIf_f ?_)))
  refine vIf_join (fun x : List Pc × Sr => x.1.length ≤ 61 ∧ x.2.pos ≤ σ.pos + 600) (fun x => ⟨41, 1, [(0, .ptr 0 0), (3, .ref 1 0 x.1.length)], [srO code x.2, some ⟨4, cPc x.1⟩]⟩) (fun h => ?_) (fun h => ?_) ?_
  · (repeat (first | simp (maxSteps := 2000000) (disch := omega) only [go_sem, ↓reduceIte] | with_reducible refine vIf_t ?_ | with_reducible refine vIf_f ?_))
    (refine vCallX_io [0] ?_; (repeat (first | simp (maxSteps := 2000000) (disch := omega) only [go_sem, ↓reduceIte] | with_reducible refine vIf_t ?_ | with_reducible refine vIf_f ?_)); refine vCallIO_ex (pick_e g 2 σ2 (by omega)) (by simp (disch := omega) only [go_sem]) (by simp (disch := omega) only [go_sem]) (by first | rfl | (simp (disch := omega) only [go_sem])) (by first | rfl | (simp (disch := omega) only [go_sem])) (by first | rfl | (simp (disch := omega) only [go_sem])) ?_); rintro _ _ ⟨v, σ3, rfl, rfl, h4, h5, h6⟩; (refine ⟨by first | (simp (disch := omega) only [go_sem]) | trivial, ?_⟩; (repeat (first | simp (maxSteps := 2000000) (disch := omega) only [go_sem, ↓reduceIte] | with_reducible refine vIf_t ?_ | with_reducible refine vIf_f ?_)))
    refine vcLoop_invF (fun x : Int × List Pc × Sr => 0 ≤ x.1 ∧ x.2.1.length + x.1.toNat ≤ 61 ∧ x.2.2.pos + 6 * x.1.toNat ≤ σ.pos + 104 + 6 * 61) (fun x => ⟨41, 1, [(4, I x.1), (0, .ptr 0 0), (3, .ref 1 0 x.2.1.length)], [srO code x.2.2, some ⟨4, cPc x.2.1⟩]⟩) (fun x => x.1.toNat) (60 + v, [], σ3) ⟨by omega, by simp; omega, by simp; omega⟩ (by (first | (refine leF_s ?_; ((repeat (first | simp (maxSteps := 2000000) (disch := omega) only [go_sem, ↓reduceIte] | with_reducible refine vIf_t ?_ | with_reducible refine vIf_f ?_)); all_goals (try simp); all_goals (try omega)); done) | (refine leF_p ?_; ((repeat (first | simp (maxSteps := 2000000) (disch := omega) only [go_sem, ↓reduceIte] | with_reducible refine vIf_t ?_ | with_reducible refine vIf_f ?_)); all_goals (try simp); all_goals (try omega)); done))) ?_
    rintro ⟨k, es, σ'⟩ ⟨g1, g2, g3⟩
    simp only at g1 g2 g3
    (repeat (first | simp (maxSteps := 2000000) (disch := omega) only [go_sem, ↓reduceIte] | with_reducible refine vIf_t ?_ | with_reducible refine vIf_f ?_))
    refine vIf_dec (fun h => ?_) (fun h => ?_)
    · (repeat (first | simp (maxSteps := 2000000) (disch := omega) only [go_sem, ↓reduceIte] | with_reducible refine vIf_t ?_ | with_reducible refine vIf_f ?_))
      (refine vCallX_io [0] ?_; (repeat (first | simp (maxSteps := 2000000) (disch := omega) only [go_sem, ↓reduceIte] | with_reducible refine vIf_t ?_ | with_reducible refine vIf_f ?_)); refine vCallIO_ex (l19New_e g σ' (es.length + 1) (by omega)) (by simp (disch := omega) only [go_sem]) (by simp (disch := omega) only [go_sem]) (by first | rfl | (simp (disch := omega) only [go_sem])) (by first | rfl | (simp (disch := omega) only [go_sem])) (by first | rfl | (simp (disch := omega) only [go_sem])) ?_); rintro _ _ ⟨p, σ3, rfl, rfl, h7⟩; (refine ⟨by first | (simp (disch := omega) only [go_sem]) | trivial, ?_⟩; (repeat (first | simp (maxSteps := 2000000) (disch := omega) only [go_sem, ↓reduceIte] | with_reducible refine vIf_t ?_ | with_reducible refine vIf_f ?_)))
      unfold Pc.cells
      (repeat (first | simp (maxSteps := 2000000) (disch := omega) only [go_sem, ↓reduceIte] | with_reducible refine vIf_t ?_ | with_reducible refine vIf_f ?_))
      refine againF ((k - 1, es ++ [p], σ3)) ?_ ?_ (by (first | (refine leF_s ?_; ((repeat (first | simp (maxSteps := 2000000) (disch := omega) only [go_sem, ↓reduceIte] | with_reducible refine vIf_t ?_ | with_reducible refine vIf_f ?_)); all_goals (try simp); all_goals (try omega)); done) | (refine leF_p ?_; ((repeat (first | simp (maxSteps := 2000000) (disch := omega) only [go_sem, ↓reduceIte] | with_reducible refine vIf_t ?_ | with_reducible refine vIf_f ?_)); all_goals (try simp); all_goals (try omega)); done)))
      · exact ⟨by omega, by simp; omega, by simp; omega⟩
      · simp; omega
    · (repeat (first | simp (maxSteps := 2000000) (disch := omega) only [go_sem, ↓reduceIte] | with_reducible refine vIf_t ?_ | with_reducible refine vIf_f ?_))
      refine jnF ((es, σ')) ?_ (by (first | (refine leF_s ?_; ((repeat (first | simp (maxSteps := 2000000) (disch := omega) only [go_sem, ↓reduceIte] | with_reducible refine vIf_t ?_ | with_reducible refine vIf_f ?_)); all_goals (try simp); all_goals (try omega)); done) | (refine leF_p ?_; ((repeat (first | simp (maxSteps := 2000000) (disch := omega) only [go_sem, ↓reduceIte] | with_reducible refine vIf_t ?_ | with_reducible refine vIf_f ?_)); all_goals (try simp); all_goals (try omega)); done)))
      exact ⟨by simp only; omega, by simp only; omega⟩
  · (repeat (first | simp (maxSteps := 2000000) (disch := omega) only [go_sem, ↓reduceIte] | with_reducible refine vIf_t ?_ | with_reducible refine vIf_f ?_))
    refine jnF ((ds, σ2)) ?_ (by (first | (refine leF_s ?_; ((repeat (first | simp (maxSteps := 2000000) (disch := omega) only [go_sem, ↓reduceIte] | with_reducible refine vIf_t ?_ | with_reducible refine vIf_f ?_)); all_goals (try simp); all_goals (try omega)); done) | (refine leF_p ?_; ((repeat (first | simp (maxSteps := 2000000) (disch := omega) only [go_sem, ↓reduceIte] | with_reducible refine vIf_t ?_ | with_reducible refine vIf_f ?_)); all_goals (try simp); all_goals (try omega)); done)))
    exact ⟨by simp only; omega, by simp only; omega⟩
  rintro ⟨ds, σ2⟩ ⟨h1, h2⟩
  simp only at h1 h2
  (repeat (first | simp (maxSteps := 2000000) (disch := omega) only [go_sem, ↓reduceIte] | with_reducible refine vIf_t ?_ | with_reducible refine vIf_f ?_))
  by_cases h0 : 0 < (ds.length : Int)
  · have h0b : decide (0 < (ds.length : Int)) = true := decide_eq_true h0
    (repeat (first | simp (maxSteps := 2000000) (disch := omega) only [go_sem, ↓reduceIte, h0b] | with_reducible refine vIf_t ?_ | with_reducible refine vIf_f ?_))
    (refine vCallX_io [0] ?_; (repeat (first | simp (maxSteps := 2000000) (disch := omega) only [go_sem, ↓reduceIte] | with_reducible refine vIf_t ?_ | with_reducible refine vIf_f ?_)); refine vCallIO_ex (one_e g 8 σ2 (by omega)) (by simp (disch := omega) only [go_sem]) (by simp (disch := omega) only [go_sem]) (by first | rfl | (simp (disch := omega) only [go_sem])) (by first | rfl | (simp (disch := omega) only [go_sem])) (by first | rfl | (simp (disch := omega) only [go_sem])) ?_); rintro _ _ ⟨b3, σ3, rfl, rfl, h3⟩; (refine ⟨by first | (simp (disch := omega) only [go_sem]) | trivial, ?_⟩; (repeat (first | simp (maxSteps := 2000000) (disch := omega) only [go_sem, ↓reduceIte] | with_reducible refine vIf_t ?_ | with_reducible refine vIf_f ?_)))
    cases b3 with
    | true =>
      refine vIf_t ?_
      (repeat (first | simp (maxSteps := 2000000) (disch := omega) only [go_sem, ↓reduceIte] | with_reducible refine vIf_t ?_ | with_reducible refine vIf_f ?_))
      (refine vCallX_io [0] ?_; (repeat (first | simp (maxSteps := 2000000) (disch := omega) only [go_sem, ↓reduceIte] | with_reducible refine vIf_t ?_ | with_reducible refine vIf_f ?_)); refine vCallIO_ex (pick_e g ds.length σ3 (by omega)) (by simp (disch := omega) only [go_sem]) (by simp (disch := omega) only [go_sem]) (by first | rfl | (simp (disch := omega) only [go_sem])) (by first | rfl | (simp (disch := omega) only [go_sem])) (by first | rfl | (simp (disch := omega) only [go_sem])) ?_); rintro _ _ ⟨v, σ4, rfl, rfl, h4, h5, h6⟩; (refine ⟨by first | (simp (disch := omega) only [go_sem]) | trivial, ?_⟩; (repeat (first | simp (maxSteps := 2000000) (disch := omega) only [go_sem, ↓reduceIte] | with_reducible refine vIf_t ?_ | with_reducible refine vIf_f ?_)))
      (refine vCallX_io [0, 1] ?_; (repeat (first | simp (maxSteps := 2000000) (disch := omega) only [go_sem, ↓reduceIte] | with_reducible refine vIf_t ?_ | with_reducible refine vIf_f ?_)); refine vCallIO_ex (l19Spoil_e g σ4 ds v.toNat (by omega) (by omega) (by omega)) (by simp (disch := omega) only [go_sem]) (by simp (disch := omega) only [go_sem]) (by first | rfl | (simp (disch := omega) only [go_sem])) (by first | rfl | (simp (disch := omega) only [go_sem])) (by first | rfl | (simp (disch := omega) only [go_sem])) ?_); rintro _ _ ⟨es, σ5, rfl, rfl, h7, h8⟩; (refine ⟨by first | (simp (disch := omega) only [go_sem]) | trivial, ?_⟩; (repeat (first | simp (maxSteps := 2000000) (disch := omega) only [go_sem, ↓reduceIte] | with_reducible refine vIf_t ?_ | with_reducible refine vIf_f ?_)))
      rw [← h7]
      (refine retK_of ?_; (repeat (first | simp (maxSteps := 2000000) (disch := omega) only [go_sem, ↓reduceIte] | with_reducible refine vIf_t ?_ | with_reducible refine vIf_f ?_)))
      exact ⟨es, σ5, rfl, rfl, by omega, by omega⟩
    | false =>
      refine vIf_f ?_
      (repeat (first | simp (maxSteps := 2000000) (disch := omega) only [go_sem, ↓reduceIte] | with_reducible refine vIf_t ?_ | with_reducible refine vIf_f ?_))
      (refine retK_of ?_; (repeat (first | simp (maxSteps := 2000000) (disch := omega) only [go_sem, ↓reduceIte] | with_reducible refine vIf_t ?_ | with_reducible refine vIf_f ?_)))
      exact ⟨ds, σ3, rfl, rfl, by omega, by omega⟩
  · have h0b : decide (0 < (ds.length : Int)) = false := decide_eq_false h0
    (repeat (first | simp (maxSteps := 2000000) (disch := omega) only [go_sem, ↓reduceIte, h0b] | with_reducible refine vIf_t ?_ | with_reducible refine vIf_f ?_))
    (refine retK_of ?_; (repeat (first | simp (maxSteps := 2000000) (disch := omega) only [go_sem, ↓reduceIte] | with_reducible refine vIf_t ?_ | with_reducible refine vIf_f ?_)))
    exact ⟨ds, σ2, rfl, rfl, by omega, by omega⟩
end Go.Proofs.YtpjjjonplikilaaGreat
namespace Go.Proofs.YtpjjjonplikilaaGreat
open Go.AG Go.Lib

theorem drawCP_e {code : List Int} (g : SrOk code) : ACalls Tryz.prog 16 [bS code] [] (fun r o => ∃ (p : Pm), r = pmV p 0 1 ∧ o = [oI p.inf, oI p.pr] ∧ p.inf.length ≤ 49 ∧ p.pr.length ≤ 49) := by
  refine ACalls.of_vc Tryz.func16 rfl (by decide) 6 rfl [.cell 2 51] rfl (by simp) ?_
  have hf := from_e g
  unfold bS at hf ⊢
  (repeat (first | simp (maxSteps := 2000000) (disch := omega) only [go_sem, ↓reduceIte] | with_reducible refine vIf_t ?_ | with_reducible refine vIf_f ?_))
  (refine vCallX_of ?_; (repeat (first | simp (maxSteps := 2000000) (disch := omega) only [go_sem, ↓reduceIte] | with_reducible refine vIf_t ?_ | with_reducible refine vIf_f ?_)); refine vCall_eq (hf) (by simp (disch := omega) only [go_sem]) rfl (by first | exact Or.inl rfl | exact Or.inr ⟨rfl, rfl⟩ | (apply Or.inr; simp only [go_sem])) ?_; (repeat (first | simp (maxSteps := 2000000) (disch := omega) only [go_sem, ↓reduceIte] | with_reducible refine vIf_t ?_ | with_reducible refine vIf_f ?_)))
  (refine vCallX_io [1] ?_; (repeat (first | simp (maxSteps := 2000000) (disch := omega) only [go_sem, ↓reduceIte] | with_reducible refine vIf_t ?_ | with_reducible refine vIf_f ?_)); refine vCallIO_ex (l15Bent_e g ⟨0, 0⟩ (by simp)) (by simp (disch := omega) only [go_sem]) (by simp (disch := omega) only [go_sem]) (by first | rfl | (simp (disch := omega) only [go_sem])) (by first | rfl | (simp (disch := omega) only [go_sem])) (by first | rfl | (simp (disch := omega) only [go_sem])) ?_); rintro _ _ ⟨p, σ1, rfl, rfl, h1, h2, h3⟩; (refine ⟨by first | (simp (disch := omega) only [go_sem]) | trivial, ?_⟩; (repeat (first | simp (maxSteps := 2000000) (disch := omega) only [go_sem, ↓reduceIte] | with_reducible refine vIf_t ?_ | with_reducible refine vIf_f ?_)))
  unfold pmV
  (repeat (first | simp (maxSteps := 2000000) (disch := omega) only [go_sem, ↓reduceIte] | with_reducible refine vIf_t ?_ | with_reducible refine vIf_f ?_))
  (refine retK_of ?_; (repeat (first | simp (maxSteps := 2000000) (disch := omega) only [go_sem, ↓reduceIte] | with_reducible refine vIf_t ?_ | with_reducible refine vIf_f ?_)))
  exact ⟨p, rfl, rfl, h1, h2⟩
/-- a run's last volume closes the balance -/
theorem wtN_smT (ds : List Wt) (k : Nat) : wtN (smW ds (k + 1)) = wtN (smW ds k) + wtN (gWt ds k) := by
  simp only [wtN, smW]; omega
theorem vs_sm (s : Int) (ds : List Wt) : ∀ k, vsK s ds k = s + wtN (smW ds k)
  | 0 => by simp [vsK, smW, wtN]
  | k + 1 => by
    rw [wtN_smT, vsK, vs_sm s ds k]; omega
theorem run_last {s : Int} {ds : List Wt} (h : rbC s ds = 0) (hn : 1 ≤ ds.length) (hm : gi (rbL s ds) (ds.length - 1) ≤ 1000000000) :
    rcM ds s (gi (rbL s ds) (ds.length - 1)) = 0 ∧ ceV s (gi (rbL s ds) (ds.length - 1)) ds = 0 := by
  have e0 : rbL s ds = vlK s ds ds.length := by rw [rbL, if_pos h]
  have hr : rcW ds s = 0 := by
    unfold rbC at h
    split at h
    · assumption
    · exact h
  have ha : (vlK s ds ds.length).all (fun n => decide (0 ≤ n)) = true := by
    unfold rbC at h
    rw [if_pos hr] at h
    split at h
    · assumption
    · omega
  obtain ⟨h1, h2, h3⟩ := rcW_0 hr
  have hl := vlK_len s ds ds.length
  have e1 : gi (vlK s ds ds.length) (ds.length - 1) = vsK s ds ds.length := by
    rw [vlK_get s ds ds.length (ds.length - 1) (by omega), show ds.length - 1 + 1 = ds.length by omega]
  have h0 : 0 ≤ vsK s ds ds.length := by
    have := List.all_eq_true.1 ha _ (gi_mem (vlK s ds ds.length) (ds.length - 1) (by omega))
    rw [e1] at this
    simpa using this
  rw [e0, e1] at hm ⊢
  have hc : rcM ds s (vsK s ds ds.length) = 0 := by rw [rcM, if_pos h1, if_pos ⟨h2, h3, h0, hm⟩]
  refine ⟨hc, ?_⟩
  rw [ceV, if_pos hc, vs_sm]
  omega
theorem rbL_len (s : Int) (ds : List Wt) : rbC s ds = 0 → (rbL s ds).length = ds.length := fun h => by rw [rbL, if_pos h, vlK_len]
/-- there is a plan, or an overload -/
theorem plan_over {p : Pm} {a b : Nat} {m c : Int} (h : OvR p a b m c) : (laPC p = 0 → c = 3) ∧ (laPC p = 3 → c = 0 ∧ 1 ≤ m) := by
  unfold laPC
  rcases h with ⟨h1, _⟩ | ⟨h1, h2, _, _, _, h6⟩ | ⟨h1, h2, h6, k, rfl, ho, rfl⟩
  · rw [if_neg (by simp [h1])]; omega
  · rw [if_pos h1, if_pos h6]; omega
  · rw [if_pos h1, if_neg (by simp [h6])]
    have := ho.v
    omega
theorem plan_is {p : Pm} {xs : List Int} (h : ChR p xs) (h0 : laPC p = 0) : pcC p xs = 0 ∧ kpB p xs = true ∧ xs.length = p.inf.length := by
  obtain ⟨f, hf⟩ := laP_f h0
  obtain ⟨a, b, c⟩ := (PlanOk_iff _ _ _).1 (h.a h0).ok.1
  exact ⟨pcC_of f a b, (kpB_iff p xs).2 c, a⟩
theorem chr_lenT {p : Pm} {xs : List Int} (h : ChR p xs) : xs.length ≤ p.inf.length := by
  by_cases e : laPC p = 0
  · rw [(h.a e).ok.1.len]; exact Nat.le_refl _
  · rw [h.b e]; simp
theorem drawDT_e {code : List Int} (g : SrOk code) : ACalls Tryz.prog 20 [bS code] [] (fun r o => ∃ (ps : List Pc) (L : Int), r = .tup [.ref 0 0 ps.length, I L] ∧ o = [some ⟨4, cPc ps⟩] ∧ ps.length ≤ 61) := by
  refine ACalls.of_vc Tryz.func20 rfl (by decide) 20 rfl [.tmp 2, .tmp 3] rfl (by simp) ?_
  have hf := from_e g
  unfold bS at hf ⊢
  (repeat (first | simp (maxSteps := 2000000) (disch := omega) only [go_sem, ↓reduceIte] | with_reducible refine vIf_t ?_ | with_reducible refine vIf_f ?_))
  (refine vCallX_of ?_; (repeat (first | simp (maxSteps := 2000000) (disch := omega) only [go_sem, ↓reduceIte] | with_reducible refine vIf_t ?_ | with_reducible refine vIf_f ?_)); refine vCall_eq (hf) (by simp (disch := omega) only [go_sem]) rfl (by first | exact Or.inl rfl | exact Or.inr ⟨rfl, rfl⟩ | (apply Or.inr; simp only [go_sem])) ?_; (repeat (first | simp (maxSteps := 2000000) (disch := omega) only [go_sem, ↓reduceIte] | with_reducible refine vIf_t ?_ | with_reducible refine vIf_f ?_)))
  (refine vCallX_io [0] ?_; (repeat (first | simp (maxSteps := 2000000) (disch := omega) only [go_sem, ↓reduceIte] | with_reducible refine vIf_t ?_ | with_reducible refine vIf_f ?_)); refine vCallIO_ex (l19Bent_e g ⟨0, 0⟩ (by simp)) (by simp (disch := omega) only [go_sem]) (by simp (disch := omega) only [go_sem]) (by first | rfl | (simp (disch := omega) only [go_sem])) (by first | rfl | (simp (disch := omega) only [go_sem])) (by first | rfl | (simp (disch := omega) only [go_sem])) ?_); rintro _ _ ⟨ps, σ1, rfl, rfl, h1, h2⟩; (refine ⟨by first | (simp (disch := omega) only [go_sem]) | trivial, ?_⟩; (repeat (first | simp (maxSteps := 2000000) (disch := omega) only [go_sem, ↓reduceIte] | with_reducible refine vIf_t ?_ | with_reducible refine vIf_f ?_)))
  simp only at h2
  (refine vCallX_io [0] ?_; (repeat (first | simp (maxSteps := 2000000) (disch := omega) only [go_sem, ↓reduceIte] | with_reducible refine vIf_t ?_ | with_reducible refine vIf_f ?_)); refine vCallIO_ex (one_e g 10 σ1 (by omega)) (by simp (disch := omega) only [go_sem]) (by simp (disch := omega) only [go_sem]) (by first | rfl | (simp (disch := omega) only [go_sem])) (by first | rfl | (simp (disch := omega) only [go_sem])) (by first | rfl | (simp (disch := omega) only [go_sem])) ?_); rintro _ _ ⟨b, σ2, rfl, rfl, h3⟩; (refine ⟨by first | (simp (disch := omega) only [go_sem]) | trivial, ?_⟩; (repeat (first | simp (maxSteps := 2000000) (disch := omega) only [go_sem, ↓reduceIte] | with_reducible refine vIf_t ?_ | with_reducible refine vIf_f ?_)))
  refine vIf_bool (fun h => ?_) (fun h => ?_)
  · (repeat (first | simp (maxSteps := 2000000) (disch := omega) only [go_sem, ↓reduceIte] | with_reducible refine vIf_t ?_ | with_reducible refine vIf_f ?_))
    (refine vCallX_io [0, 2] ?_; (repeat (first | simp (maxSteps := 2000000) (disch := omega) only [go_sem, ↓reduceIte] | with_reducible refine vIf_t ?_ | with_reducible refine vIf_f ?_)); refine vCallIO_ex (among_l g [-1, 0, 1, 300000, 300001] σ2 (by omega) (by simp) _ rfl _ rfl) (by simp (disch := omega) only [go_sem]) (by simp (disch := omega) only [go_sem]) (by first | rfl | (simp (disch := omega) only [go_sem])) (by first | rfl | (simp (disch := omega) only [go_sem])) (by first | rfl | (simp (disch := omega) only [go_sem])) ?_); rintro _ _ ⟨v2, σ4, rfl, rfl, q1, q2⟩; (refine ⟨by first | (simp (disch := omega) only [go_sem]) | trivial, ?_⟩; (repeat (first | simp (maxSteps := 2000000) (disch := omega) only [go_sem, ↓reduceIte] | with_reducible refine vIf_t ?_ | with_reducible refine vIf_f ?_)))
    (refine retK_of ?_; (repeat (first | simp (maxSteps := 2000000) (disch := omega) only [go_sem, ↓reduceIte] | with_reducible refine vIf_t ?_ | with_reducible refine vIf_f ?_)))
    exact ⟨ps, _, rfl, rfl, h1⟩
  · (repeat (first | simp (maxSteps := 2000000) (disch := omega) only [go_sem, ↓reduceIte] | with_reducible refine vIf_t ?_ | with_reducible refine vIf_f ?_))
    (refine vCallX_io [0] ?_; (repeat (first | simp (maxSteps := 2000000) (disch := omega) only [go_sem, ↓reduceIte] | with_reducible refine vIf_t ?_ | with_reducible refine vIf_f ?_)); refine vCallIO_ex (pick_e g 900 σ2 (by omega)) (by simp (disch := omega) only [go_sem]) (by simp (disch := omega) only [go_sem]) (by first | rfl | (simp (disch := omega) only [go_sem])) (by first | rfl | (simp (disch := omega) only [go_sem])) (by first | rfl | (simp (disch := omega) only [go_sem])) ?_); rintro _ _ ⟨v2, σ4, rfl, rfl, q1, q2, q3⟩; (refine ⟨by first | (simp (disch := omega) only [go_sem]) | trivial, ?_⟩; (repeat (first | simp (maxSteps := 2000000) (disch := omega) only [go_sem, ↓reduceIte] | with_reducible refine vIf_t ?_ | with_reducible refine vIf_f ?_)))
    (refine retK_of ?_; (repeat (first | simp (maxSteps := 2000000) (disch := omega) only [go_sem, ↓reduceIte] | with_reducible refine vIf_t ?_ | with_reducible refine vIf_f ?_)))
    exact ⟨ps, _, rfl, rfl, h1⟩
end Go.Proofs.YtpjjjonplikilaaGreat
namespace Go.Proofs.YtpjjjonplikilaaGreat
open Go.AG

structure Ld where
  rows : Int
  cols : Int
  hs : List Int
def lC (l : Ld) : List V := [I l.rows, I l.cols, .sl l.hs.length (ints l.hs)]
def okL (l : Ld) : Bool := decide (1 ≤ l.rows ∧ l.rows ≤ 12) && decide (1 ≤ l.cols ∧ l.cols ≤ 12) && decide ((l.hs.length : Int) = l.rows * l.cols) && l.hs.all (fun x => decide (-2000 ≤ x ∧ x ≤ 2000))
theorem mul12 {a b : Int} (ha : 1 ≤ a ∧ a ≤ 12) (hb : 1 ≤ b ∧ b ≤ 12) : 1 ≤ a * b ∧ a * b ≤ 144 := by
  have h1 : 1 * 1 ≤ a * b := Int.mul_le_mul ha.1 hb.1 (by omega) (by omega)
  have h2 : a * b ≤ 12 * 12 := Int.mul_le_mul ha.2 hb.2 (by omega) (by omega)
  omega
theorem lv_ok (n : Int) : ACalls Tryz.prog 70 [I n] [] (fun r o => r = B (decide (-2000 ≤ n ∧ n ≤ 2000)) ∧ o = []) := by
  refine ACalls.of_vc Tryz.func70 rfl (by decide) 5 rfl [.tmp 2] rfl (by simp) ?_
  (repeat (first | simp (maxSteps := 2000000) (disch := omega) only [go_sem, ↓reduceIte] | with_reducible refine vIf_t ?_ | with_reducible refine vIf_f ?_))
  (refine vCallX_of ?_; (repeat (first | simp (maxSteps := 2000000) (disch := omega) only [go_sem, ↓reduceIte] | with_reducible refine vIf_t ?_ | with_reducible refine vIf_f ?_)); refine vCall_eq (in_ok n (-2000) 2000) (by simp (disch := omega) only [go_sem]) rfl (by first | exact Or.inl rfl | exact Or.inr ⟨rfl, rfl⟩ | (apply Or.inr; simp only [go_sem])) ?_; (repeat (first | simp (maxSteps := 2000000) (disch := omega) only [go_sem, ↓reduceIte] | with_reducible refine vIf_t ?_ | with_reducible refine vIf_f ?_)))
  (refine retK_of ?_; (repeat (first | simp (maxSteps := 2000000) (disch := omega) only [go_sem, ↓reduceIte] | with_reducible refine vIf_t ?_ | with_reducible refine vIf_f ?_)))
theorem lvs_ok (xs : List Int) (hl : xs.length ≤ 10000000) : ACalls Tryz.prog 71 [iS xs] [] (fun r o => r = B (xs.all (fun x => decide (-2000 ≤ x ∧ x ≤ 2000))) ∧ o = []) := by
  refine ACalls.of_vc Tryz.func71 rfl (by decide) 5 rfl [.tmp 2] rfl (by simp) ?_
  (repeat (first | simp (maxSteps := 2000000) (disch := omega) only [go_sem, ↓reduceIte] | with_reducible refine vIf_t ?_ | with_reducible refine vIf_f ?_))
  (refine vCallX_of ?_; (repeat (first | simp (maxSteps := 2000000) (disch := omega) only [go_sem, ↓reduceIte] | with_reducible refine vIf_t ?_ | with_reducible refine vIf_f ?_)); refine vCall_eq (all_ok 70 [] (fun x => decide (-2000 ≤ x ∧ x ≤ 2000)) xs (fun x _ => lv_ok x) rfl hl) (by simp (disch := omega) only [go_sem]) rfl (by first | exact Or.inl rfl | exact Or.inr ⟨rfl, rfl⟩ | (apply Or.inr; simp only [go_sem])) ?_; (repeat (first | simp (maxSteps := 2000000) (disch := omega) only [go_sem, ↓reduceIte] | with_reducible refine vIf_t ?_ | with_reducible refine vIf_f ?_)))
  (refine retK_of ?_; (repeat (first | simp (maxSteps := 2000000) (disch := omega) only [go_sem, ↓reduceIte] | with_reducible refine vIf_t ?_ | with_reducible refine vIf_f ?_)))
set_option maxHeartbeats 2000000 in
theorem validL_ok (l : Ld) (hl : l.hs.length ≤ 10000000) : ACalls Tryz.prog 76 [.agg (lC l)] [] (fun r o => r = B (okL l) ∧ o = []) := by
  refine ACalls.of_vc Tryz.func76 rfl (by decide) 27 rfl [.tmp 2] rfl (by simp) ?_
  have hlv := lvs_ok l.hs hl
  unfold iS at hlv
  unfold lC
  (repeat (first | simp (maxSteps := 2000000) (disch := omega) only [go_sem, ↓reduceIte] | with_reducible refine vIf_t ?_ | with_reducible refine vIf_f ?_))
  (refine vDraw_of mixed (by kernel_rfl) ?_; (repeat (first | simp (maxSteps := 2000000) (disch := omega) only [go_sem, ↓reduceIte] | with_reducible refine vIf_t ?_ | with_reducible refine vIf_f ?_)))
  (refine vqCall_eq (in_ok l.rows 1 12) (by simp (disch := omega) only [go_sem]) rfl ?_; (repeat (first | simp (maxSteps := 2000000) (disch := omega) only [go_sem, ↓reduceIte] | with_reducible refine vIf_t ?_ | with_reducible refine vIf_f ?_)))
  refine vqGuard_any (fun g1 => ?_) (fun g1 => ?_)
  rotate_left
  · have g1' : ¬ (1 ≤ l.rows ∧ l.rows ≤ 12) := by simpa using g1
    (repeat (first | simp (maxSteps := 2000000) (disch := omega) only [go_sem, ↓reduceIte, g1'] | with_reducible refine vIf_t ?_ | with_reducible refine vIf_f ?_))
    (refine retK_of ?_; (repeat (first | simp (maxSteps := 2000000) (disch := omega) only [go_sem, ↓reduceIte] | with_reducible refine vIf_t ?_ | with_reducible refine vIf_f ?_)))
    simp only [okL, decide_eq_false g1', Bool.false_and]
  have g1 : (1 ≤ l.rows ∧ l.rows ≤ 12) := by simpa using g1
  (repeat (first | simp (maxSteps := 2000000) (disch := omega) only [go_sem, ↓reduceIte, g1] | with_reducible refine vIf_t ?_ | with_reducible refine vIf_f ?_))
  (refine vqCall_eq (in_ok l.cols 1 12) (by simp (disch := omega) only [go_sem]) rfl ?_; (repeat (first | simp (maxSteps := 2000000) (disch := omega) only [go_sem, ↓reduceIte] | with_reducible refine vIf_t ?_ | with_reducible refine vIf_f ?_)))
  (try (repeat (first | simp (maxSteps := 2000000) (disch := omega) only [go_sem, ↓reduceIte, g1] | with_reducible refine vIf_t ?_ | with_reducible refine vIf_f ?_)))
  refine vqGuard_any (fun g2 => ?_) (fun g2 => ?_)
  rotate_left
  · have g2' : ¬ (1 ≤ l.cols ∧ l.cols ≤ 12) := by simpa using g2
    (repeat (first | simp (maxSteps := 2000000) (disch := omega) only [go_sem, ↓reduceIte, g2'] | with_reducible refine vIf_t ?_ | with_reducible refine vIf_f ?_))
    (refine retK_of ?_; (repeat (first | simp (maxSteps := 2000000) (disch := omega) only [go_sem, ↓reduceIte] | with_reducible refine vIf_t ?_ | with_reducible refine vIf_f ?_)))
    simp only [okL, decide_eq_false g2', Bool.false_and, Bool.and_false]
  have g2 : (1 ≤ l.cols ∧ l.cols ≤ 12) := by simpa using g2
  have hmul := mul12 g1 g2
  (repeat (first | simp (maxSteps := 2000000) (disch := omega) only [go_sem, ↓reduceIte, g2] | with_reducible refine vIf_t ?_ | with_reducible refine vIf_f ?_))
  (refine vqCall_eq (size_ok (ints l.hs) l.hs.length) (by simp (disch := omega) only [go_sem]) rfl ?_; (repeat (first | simp (maxSteps := 2000000) (disch := omega) only [go_sem, ↓reduceIte] | with_reducible refine vIf_t ?_ | with_reducible refine vIf_f ?_)))
  (try (repeat (first | simp (maxSteps := 2000000) (disch := omega) only [go_sem, ↓reduceIte, g2] | with_reducible refine vIf_t ?_ | with_reducible refine vIf_f ?_)))
  refine vqGuard_any (fun g3 => ?_) (fun g3 => ?_)
  rotate_left
  · have g3' : ¬ (l.hs.length : Int) = l.rows * l.cols := by simpa using g3
    have g3'' : ((l.hs.length : Int) == l.rows * l.cols) = false := by simpa using g3
    (repeat (first | simp (maxSteps := 2000000) (disch := omega) only [go_sem, ↓reduceIte, g3''] | with_reducible refine vIf_t ?_ | with_reducible refine vIf_f ?_))
    (refine retK_of ?_; (repeat (first | simp (maxSteps := 2000000) (disch := omega) only [go_sem, ↓reduceIte] | with_reducible refine vIf_t ?_ | with_reducible refine vIf_f ?_)))
    simp only [okL, decide_eq_false g3', Bool.false_and, Bool.and_false]
  have g3' : (l.hs.length : Int) = l.rows * l.cols := by simpa using g3
  have g3'' : ((l.hs.length : Int) == l.rows * l.cols) = true := by simpa using g3
  (repeat (first | simp (maxSteps := 2000000) (disch := omega) only [go_sem, ↓reduceIte, g3''] | with_reducible refine vIf_t ?_ | with_reducible refine vIf_f ?_))
  (refine vqCall_eq (hlv) (by simp (disch := omega) only [go_sem]) rfl ?_; (repeat (first | simp (maxSteps := 2000000) (disch := omega) only [go_sem, ↓reduceIte] | with_reducible refine vIf_t ?_ | with_reducible refine vIf_f ?_)))
  (refine retK_of ?_; (repeat (first | simp (maxSteps := 2000000) (disch := omega) only [go_sem, ↓reduceIte] | with_reducible refine vIf_t ?_ | with_reducible refine vIf_f ?_)))
  simp only [okL, decide_eq_true g1, decide_eq_true g2, decide_eq_true g3', Bool.true_and]
end Go.Proofs.YtpjjjonplikilaaGreat

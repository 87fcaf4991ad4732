/- the law of alarms -/
import Derived.Test.YtjgjnedenapemaaGreatDoorAl3
import Derived.Test.YtjgjnedenapemaaGreatDoorAl4
import Derived.Test.YtjgjnedenapemaaGreatDoorAlD
import Derived.Test.YtjgjnedenapemaaGreatDoorA2
import Derived.Test.YtjgjnedenapemaaGreatDoorHas
set_option linter.unusedVariables false
set_option linter.unusedSimpArgs false
namespace Go.Proofs.YtjgjnedenapemaaGreatDoor
-- steps 40000000
open Go.AG Go.Lib

attribute [local go_sem] beq_self_eq_true bne_self_eq_false Bool.not_true
theorem readAF_ok (xs : List Int) (h : AlX xs) : ACalls Tryz.prog 11 [St (tx (alT xs))] [] (fun r o => r = .tup [.sl xs.length (ints xs), B true] ∧ o = []) := by
  refine (readA_ok xs h).fz ?_
  rintro r o ⟨rfl, rfl⟩
  refine ⟨.tup [.sl xs.length (ints xs), B true], .step 0 ⟨1, ints xs⟩ rfl (by (repeat (first | simp (maxSteps := 40000000) (disch := omega) only [go_sem, ↓reduceIte] | with_reducible refine vIf_t ?_ | with_reducible refine vIf_f ?_))) ?_, rfl, rfl⟩
  (repeat (first | simp (maxSteps := 40000000) (disch := omega) only [go_sem, ↓reduceIte] | with_reducible refine vIf_t ?_ | with_reducible refine vIf_f ?_))
  exact .done rfl
/-! the plain law -/
structure AlF (sg : Nat → Int) (h i : Nat) : Prop where
  a : sg i ≤ nwS sg h (i + 1)
  b : nwS sg h i < nwS sg h (i + 1) → nwS sg h (i + 1) = sg i
  c : nwS sg h (i + 1) < nwS sg h i → h ≤ i ∧ mxZ sg (i - h) (h + 1) = nwS sg h (i + 1)
theorem al_fact (sg : Nat → Int) (h i : Nat) : AlF sg h i := by
  have hm := mxZ_le sg (i - h) (h + 1) h (by omega)
  suffices H : sg i ≤ nwS sg h (i + 1) ∧ (nwS sg h i < nwS sg h (i + 1) → nwS sg h (i + 1) = sg i) ∧ (nwS sg h (i + 1) < nwS sg h i → h ≤ i ∧ mxZ sg (i - h) (h + 1) = nwS sg h (i + 1)) from ⟨H.1, H.2.1, H.2.2⟩
  by_cases c : h ≤ i
  · rw [show i - h + h = i by omega] at hm
    have e : nwS sg h (i + 1) = if mxZ sg (i - h) (h + 1) < (if nwS sg h i < sg i then sg i else nwS sg h i) then mxZ sg (i - h) (h + 1) else (if nwS sg h i < sg i then sg i else nwS sg h i) := by rw [nwS, if_pos c]
    generalize mxZ sg (i - h) (h + 1) = m at *
    generalize nwS sg h (i + 1) = p at *
    generalize nwS sg h i = q at *
    by_cases d : q < sg i
    · rw [if_pos d] at e
      by_cases d2 : m < sg i
      · omega
      · rw [if_neg d2] at e
        exact ⟨by omega, fun _ => e, fun k => by omega⟩
    · rw [if_neg d] at e
      by_cases d2 : m < q
      · rw [if_pos d2] at e
        exact ⟨by omega, fun k => by omega, fun _ => ⟨c, e.symm⟩⟩
      · rw [if_neg d2] at e
        exact ⟨by omega, fun k => by omega, fun k => by omega⟩
  · have e : nwS sg h (i + 1) = (if nwS sg h i < sg i then sg i else nwS sg h i) := by rw [nwS, if_neg c]
    generalize nwS sg h (i + 1) = p at *
    generalize nwS sg h i = q at *
    by_cases d : q < sg i
    · rw [if_pos d] at e
      exact ⟨by omega, fun _ => e, fun k => by omega⟩
    · rw [if_neg d] at e
      exact ⟨by omega, fun k => by omega, fun k => by omega⟩
set_option maxRecDepth 100000 in
set_option maxHeartbeats 64000000 in
theorem alarmsLaw_ok (code more : List Int) (hb : bOk code) (hm : bOk more) (hl : code.length ≤ 9223372036854775807) (hl2 : more.length ≤ 9223372036854775807) : ACalls Tryz.prog 3 [bS code, bS more] [] (fun r o => r = B true ∧ o = []) := by
  refine ACalls.of_vc Tryz.func3 rfl (by decide) 215 rfl [.tmp 4] rfl (by simp) ?_
  have hbig := a2Long_ok code more hl hl2
  unfold bS at hbig ⊢
  (repeat (first | simp (maxSteps := 40000000) (disch := omega) only [go_sem, ↓reduceIte] | with_reducible refine vIf_t ?_ | with_reducible refine vIf_f ?_))
  (refine vCallX_of ?_; (repeat (first | simp (maxSteps := 40000000) (disch := omega) only [go_sem, ↓reduceIte] | with_reducible refine vIf_t ?_ | with_reducible refine vIf_f ?_)); refine vCall_eq (hbig) (by simp (disch := omega) only [go_sem]) rfl (by first | exact Or.inl rfl | exact Or.inr ⟨rfl, rfl⟩ | (apply Or.inr; simp only [go_sem])) ?_; (repeat (first | simp (maxSteps := 40000000) (disch := omega) only [go_sem, ↓reduceIte] | with_reducible refine vIf_t ?_ | with_reducible refine vIf_f ?_)))
  cases hlg : (decide (3000 < (code.length : Int)) || decide (3000 < (more.length : Int))) with
  | true =>
    refine vIf_t ?_
    (repeat (first | simp (maxSteps := 40000000) (disch := omega) only [go_sem, ↓reduceIte] | with_reducible refine vIf_t ?_ | with_reducible refine vIf_f ?_))
    (refine retK_of ?_; (repeat (first | simp (maxSteps := 40000000) (disch := omega) only [go_sem, ↓reduceIte] | with_reducible refine vIf_t ?_ | with_reducible refine vIf_f ?_)))
  | false =>
    refine vIf_f ?_
    simp only [Bool.or_eq_false_iff, decide_eq_false_iff_not] at hlg
    have g : SrOk code := ⟨hb, by omega⟩
    have g2 : SrOk more := ⟨hm, by omega⟩
    have d1 := a2Alarms_e g
    have d2 := a2LevelsA_e g2
    have d3 := a2At_e more 40 4 hm (by omega) (by omega) (by omega)
    unfold bS at d1 d2 d3
    (repeat (first | simp (maxSteps := 40000000) (disch := omega) only [go_sem, ↓reduceIte] | with_reducible refine vIf_t ?_ | with_reducible refine vIf_f ?_))
    (refine vCallX_of ?_; (repeat (first | simp (maxSteps := 40000000) (disch := omega) only [go_sem, ↓reduceIte] | with_reducible refine vIf_t ?_ | with_reducible refine vIf_f ?_)); refine vCall_ex (d1) (by simp (disch := omega) only [go_sem]) rfl ?_); rintro _ _ ⟨xs, rfl, rfl, hx⟩; (refine ⟨(by first | exact Or.inl rfl | exact Or.inr ⟨rfl, rfl⟩ | (apply Or.inr; simp only [go_sem])), ?_⟩; (repeat (first | simp (maxSteps := 40000000) (disch := omega) only [go_sem, ↓reduceIte] | with_reducible refine vIf_t ?_ | with_reducible refine vIf_f ?_)))
    (refine vCallX_fz 0 _ rfl (by (repeat (first | simp (maxSteps := 40000000) (disch := omega) only [go_sem, ↓reduceIte] | with_reducible refine vIf_t ?_ | with_reducible refine vIf_f ?_))) ?_; (repeat (first | simp (maxSteps := 40000000) (disch := omega) only [go_sem, ↓reduceIte] | with_reducible refine vIf_t ?_ | with_reducible refine vIf_f ?_)))
    (refine vCallX_of ?_; (repeat (first | simp (maxSteps := 40000000) (disch := omega) only [go_sem, ↓reduceIte] | with_reducible refine vIf_t ?_ | with_reducible refine vIf_f ?_)); refine vCall_ex (d2) (by simp (disch := omega) only [go_sem]) rfl ?_); rintro _ _ ⟨ls, rfl, rfl, hv, hn⟩; (refine ⟨(by first | exact Or.inl rfl | exact Or.inr ⟨rfl, rfl⟩ | (apply Or.inr; simp only [go_sem])), ?_⟩; (repeat (first | simp (maxSteps := 40000000) (disch := omega) only [go_sem, ↓reduceIte] | with_reducible refine vIf_t ?_ | with_reducible refine vIf_f ?_)))
    (refine vCallX_fz 1 _ rfl (by (repeat (first | simp (maxSteps := 40000000) (disch := omega) only [go_sem, ↓reduceIte] | with_reducible refine vIf_t ?_ | with_reducible refine vIf_f ?_))) ?_; (repeat (first | simp (maxSteps := 40000000) (disch := omega) only [go_sem, ↓reduceIte] | with_reducible refine vIf_t ?_ | with_reducible refine vIf_f ?_)))
    (refine vCallX_of ?_; (repeat (first | simp (maxSteps := 40000000) (disch := omega) only [go_sem, ↓reduceIte] | with_reducible refine vIf_t ?_ | with_reducible refine vIf_f ?_)); refine vCall_ex (d3) (by simp (disch := omega) only [go_sem]) rfl ?_); rintro _ _ ⟨v, rfl, rfl, hv1, hv2⟩; (refine ⟨(by first | exact Or.inl rfl | exact Or.inr ⟨rfl, rfl⟩ | (apply Or.inr; simp only [go_sem])), ?_⟩; (repeat (first | simp (maxSteps := 40000000) (disch := omega) only [go_sem, ↓reduceIte] | with_reducible refine vIf_t ?_ | with_reducible refine vIf_f ?_)))
    obtain ⟨h, rfl⟩ : ∃ h : Nat, v = h := ⟨v.toNat, by omega⟩
    have n1 := hx.n1
    have n5 := hx.n5
    have p1 := alStagesF_ok xs ls h hx hv (by omega) (by omega)
    have p2 := esc_ok xs ls h hx hv (by omega) (by omega)
    have p3 := alText_ok xs hx
    have p4 := readAF_ok xs hx
    have p5 := a2SameA_ok xs (by omega)
    have hE := fun i (hi : i < ls.length) => mem_ixs ls.length (esQ xs ls h) i hi
    have hel : (esL xs ls h).length ≤ ls.length := ixs_len _ _
    rw [show ixs ls.length (esQ xs ls h) = esL xs ls h from rfl] at hE
    have hS := fun i (hi : i < ls.length) => stL_gi xs ls h ls.length i hi
    have hSl := stL_len xs ls h ls.length
    generalize stL xs ls h ls.length = S at *
    generalize esL xs ls h = E at *
    (refine vCallX_keep [6, 5, 7, 1, 38, 39, 40] rfl ?_; (repeat (first | simp (maxSteps := 40000000) (disch := omega) only [go_sem, ↓reduceIte] | with_reducible refine vIf_t ?_ | with_reducible refine vIf_f ?_)))
    (refine vCallX_of ?_; (repeat (first | simp (maxSteps := 40000000) (disch := omega) only [go_sem, ↓reduceIte] | with_reducible refine vIf_t ?_ | with_reducible refine vIf_f ?_)); refine vCall_eq (p1) (by simp (disch := omega) only [go_sem]) rfl (by first | exact Or.inl rfl | exact Or.inr ⟨rfl, rfl⟩ | (apply Or.inr; simp only [go_sem])) ?_; (repeat (first | simp (maxSteps := 40000000) (disch := omega) only [go_sem, ↓reduceIte] | with_reducible refine vIf_t ?_ | with_reducible refine vIf_f ?_)))
    (refine vCallX_keep [6, 5, 8, 7, 1, 9, 45, 46, 47] rfl ?_; (repeat (first | simp (maxSteps := 40000000) (disch := omega) only [go_sem, ↓reduceIte] | with_reducible refine vIf_t ?_ | with_reducible refine vIf_f ?_)))
    (refine vCallX_of ?_; (repeat (first | simp (maxSteps := 40000000) (disch := omega) only [go_sem, ↓reduceIte] | with_reducible refine vIf_t ?_ | with_reducible refine vIf_f ?_)); refine vCall_eq (p2) (by simp (disch := omega) only [go_sem]) rfl (by first | exact Or.inl rfl | exact Or.inr ⟨rfl, rfl⟩ | (apply Or.inr; simp only [go_sem])) ?_; (repeat (first | simp (maxSteps := 40000000) (disch := omega) only [go_sem, ↓reduceIte] | with_reducible refine vIf_t ?_ | with_reducible refine vIf_f ?_)))
    (refine vCallX_keep [6, 5, 8, 7, 10, 1, 11, 9, 52] rfl ?_; (repeat (first | simp (maxSteps := 40000000) (disch := omega) only [go_sem, ↓reduceIte] | with_reducible refine vIf_t ?_ | with_reducible refine vIf_f ?_)))
    (refine vCallX_of ?_; (repeat (first | simp (maxSteps := 40000000) (disch := omega) only [go_sem, ↓reduceIte] | with_reducible refine vIf_t ?_ | with_reducible refine vIf_f ?_)); refine vCall_eq (p3) (by simp (disch := omega) only [go_sem]) rfl (by first | exact Or.inl rfl | exact Or.inr ⟨rfl, rfl⟩ | (apply Or.inr; simp only [go_sem])) ?_; (repeat (first | simp (maxSteps := 40000000) (disch := omega) only [go_sem, ↓reduceIte] | with_reducible refine vIf_t ?_ | with_reducible refine vIf_f ?_)))
    (refine vCallX_of ?_; (repeat (first | simp (maxSteps := 40000000) (disch := omega) only [go_sem, ↓reduceIte] | with_reducible refine vIf_t ?_ | with_reducible refine vIf_f ?_)); refine vCall_eq (p4) (by simp (disch := omega) only [go_sem]) rfl (by first | exact Or.inl rfl | exact Or.inr ⟨rfl, rfl⟩ | (apply Or.inr; simp only [go_sem])) ?_; (repeat (first | simp (maxSteps := 40000000) (disch := omega) only [go_sem, ↓reduceIte] | with_reducible refine vIf_t ?_ | with_reducible refine vIf_f ?_)))
    (refine vCallX_keep [6, 5, 8, 7, 10, 1, 12, 13, 11, 9, 74, 75, 76] rfl ?_; (repeat (first | simp (maxSteps := 40000000) (disch := omega) only [go_sem, ↓reduceIte] | with_reducible refine vIf_t ?_ | with_reducible refine vIf_f ?_)))
    (refine vCallX_of ?_; (repeat (first | simp (maxSteps := 40000000) (disch := omega) only [go_sem, ↓reduceIte] | with_reducible refine vIf_t ?_ | with_reducible refine vIf_f ?_)); refine vCall_eq (p5) (by simp (disch := omega) only [go_sem]) rfl (by first | exact Or.inl rfl | exact Or.inr ⟨rfl, rfl⟩ | (apply Or.inr; simp only [go_sem])) ?_; (repeat (first | simp (maxSteps := 40000000) (disch := omega) only [go_sem, ↓reduceIte] | with_reducible refine vIf_t ?_ | with_reducible refine vIf_f ?_)))
    (try (repeat (first | simp (maxSteps := 40000000) (disch := omega) only [go_sem, ↓reduceIte] | with_reducible refine vIf_t ?_ | with_reducible refine vIf_f ?_)))
    clear p1 p2 p3 p4 p5 d1 d2 d3 hbig
    have hb0 := nwS_bd (sg := sgN xs ls) h (b := 5) (by omega) (sgN_bd n5)
    have hlv : ∀ i, i < ls.length → -2000 ≤ gi ls i ∧ gi ls i ≤ 2000 := fun i hi => hv _ (gi_mem _ _ hi)
    have hAO := fun i (hi : i < ls.length) => alarmOf_ok xs (gi ls i) hx (hlv i hi)
    have hFt := fun i => al_fact (sgN xs ls) h i
    have hbd := sgN_bd (ls := ls) n5
    have hmz := fun a => mxZ_bd (f := sgN xs ls) (a := a) (b := 5) (by omega)
    have hSt : ∀ i, (stg xs (gi ls i) : Int) = sgN xs ls i := fun i => rfl
    have hEQ : ∀ i, esQ xs ls h i = decide (nwS (sgN xs ls) h i < nwS (sgN xs ls) h (i + 1)) := fun i => rfl
    have hZ0 : ∀ a, mxZ (sgN xs ls) a 0 = 0 := fun a => rfl
    have hZS : ∀ a d, mxZ (sgN xs ls) a (d + 1) = if mxZ (sgN xs ls) a d < sgN xs ls (a + d) then sgN xs ls (a + d) else mxZ (sgN xs ls) a d := fun a d => rfl
    have hN0 : nwS (sgN xs ls) h 0 = 0 := rfl
    have hW := fun st hs => warn_ok xs ls st hx hv (by omega) hs
    have hAS := fun i (hi : i < ls.length) => alarmOfS_ok xs (gi ls i) hx (hlv i hi)
    have hat := a2At_e more 41 xs.length hm (by omega) (by omega) (by omega)
    unfold WtP at hW
    unfold bS at hat
    simp only [hSt, hEQ] at hAO hE hAS
    generalize hsg : sgN xs ls = sg at *
    generalize hNe : nwS sg h = N at *
    refine vcLoop_invF (fun i : Nat => i ≤ ls.length) (fun i => ⟨215, 0, [(15, I i), (14, I (N i)), (6, .sl ls.length (ints ls)), (5, .sl xs.length (ints xs)), (8, .sl ls.length (ints S)), (7, I h), (10, .sl E.length (ints E)), (1, .sl more.length (bts more))], []⟩) (fun i => ls.length - i) 0 (by omega) (by rw [hN0]; (first | (refine leF_s ?_; ((repeat (first | simp (maxSteps := 40000000) (disch := omega) only [go_sem, ↓reduceIte] | with_reducible refine vIf_t ?_ | with_reducible refine vIf_f ?_)); all_goals (try simp); all_goals (try omega)); done) | (refine leF_p ?_; ((repeat (first | simp (maxSteps := 40000000) (disch := omega) only [go_sem, ↓reduceIte] | with_reducible refine vIf_t ?_ | with_reducible refine vIf_f ?_)); all_goals (try simp); all_goals (try omega)); done))) ?_
    intro i hi
    (repeat (first | simp (maxSteps := 40000000) (disch := omega) only [go_sem, ↓reduceIte] | with_reducible refine vIf_t ?_ | with_reducible refine vIf_f ?_))
    refine vIf_dec (fun hc => ?_) (fun hc => ?_)
    · have hil : i < ls.length := by omega
      have ha := hAO i hil
      have hhas := hasL_ok E (i : Int) (by omega)
      rw [hE i hil] at hhas
      have gS := hS i hil
      obtain ⟨f1, f2, f3⟩ := hFt i
      rw [hNe] at f1 f2 f3
      have b1 := hb0 i
      have b2 := hb0 (i + 1)
      have b3 := hbd i
      have c1 : decide (N (i + 1) < sg i) = false := decide_eq_false (by omega)
      unfold iS at hhas
      (repeat (first | simp (maxSteps := 40000000) (disch := omega) only [go_sem, ↓reduceIte] | with_reducible refine vIf_t ?_ | with_reducible refine vIf_f ?_))
      (refine vCallX_of ?_; (repeat (first | simp (maxSteps := 40000000) (disch := omega) only [go_sem, ↓reduceIte] | with_reducible refine vIf_t ?_ | with_reducible refine vIf_f ?_)); refine vCall_eq (ha) (by simp (disch := omega) only [go_sem]) rfl (by first | exact Or.inl rfl | exact Or.inr ⟨rfl, rfl⟩ | (apply Or.inr; simp only [go_sem])) ?_; (repeat (first | simp (maxSteps := 40000000) (disch := omega) only [go_sem, ↓reduceIte] | with_reducible refine vIf_t ?_ | with_reducible refine vIf_f ?_)))
      rcases Int.lt_trichotomy (N i) (N (i + 1)) with q | q | q
      · have e1 := decide_eq_true q
        have e2 : decide (N (i + 1) < N i) = false := decide_eq_false (by omega)
        have e3 : (N (i + 1) != sg i) = false := by rw [f2 q]; simp
        rw [e1] at hhas
        (refine vDraw_sch 36 ([(0, false), (1, false), (2, false), (3, false), (4, false), (5, false), (6, false), (7, false), (8, false), (9, false), (10, false), (11, false), (12, false), (13, false), (14, false), (15, false), (16, false), (17, false), (18, false), (19, false)] ++ [(20, false), (21, false), (22, false), (23, false), (24, false), (25, false), (26, false), (27, false), (28, false), (30, false), (31, false), (32, false), (33, false), (34, false), (35, false), (29, false)]) mixed (by kernel_rfl) ?_; simp only [List.cons_append, List.nil_append, List.map_cons, List.map_nil, nthO_zero, nthO_succ, List.drop_succ_cons, List.drop_zero, List.drop_nil]; (repeat (first | simp (maxSteps := 40000000) (disch := omega) only [go_sem, ↓reduceIte] | with_reducible refine vIf_t ?_ | with_reducible refine vIf_f ?_)))
        (try (repeat (first | simp (maxSteps := 40000000) (disch := omega) only [go_sem, ↓reduceIte, gS, c1, e1, e3] | with_reducible refine vIf_t ?_ | with_reducible refine vIf_f ?_)))
        (refine vsCallX_of ?_; (try (repeat (first | simp (maxSteps := 40000000) (disch := omega) only [go_sem, ↓reduceIte] | with_reducible refine vIf_t ?_ | with_reducible refine vIf_f ?_))); refine vCall_eq (hhas) (by simp (disch := omega) only [go_sem]) rfl (by first | exact Or.inl rfl | exact Or.inr ⟨rfl, rfl⟩ | (apply Or.inr; simp only [go_sem])) ?_; (try (repeat (first | simp (maxSteps := 40000000) (disch := omega) only [go_sem, ↓reduceIte] | with_reducible refine vIf_t ?_ | with_reducible refine vIf_f ?_))))
        (try (repeat (first | simp (maxSteps := 40000000) (disch := omega) only [go_sem, ↓reduceIte, gS, e2] | with_reducible refine vIf_t ?_ | with_reducible refine vIf_f ?_)))
        refine againF (i + 1) (by omega) (by omega) (by (first | (refine leF_s ?_; ((repeat (first | simp (maxSteps := 40000000) (disch := omega) only [go_sem, ↓reduceIte] | with_reducible refine vIf_t ?_ | with_reducible refine vIf_f ?_)); all_goals (try simp); all_goals (try omega)); done) | (refine leF_p ?_; ((repeat (first | simp (maxSteps := 40000000) (disch := omega) only [go_sem, ↓reduceIte] | with_reducible refine vIf_t ?_ | with_reducible refine vIf_f ?_)); all_goals (try simp); all_goals (try omega)); done)))
      · have e1 : decide (N i < N (i + 1)) = false := decide_eq_false (by omega)
        have e2 : decide (N (i + 1) < N i) = false := decide_eq_false (by omega)
        rw [e1] at hhas
        (refine vDraw_sch 36 ([(0, false), (1, false), (2, false), (3, false), (4, false), (5, false), (6, false), (7, false), (8, false), (9, false), (10, false), (11, false), (12, false), (13, false), (14, false), (15, false), (16, false), (17, false), (18, false), (19, false)] ++ [(20, false), (21, false), (22, false), (23, false), (24, false), (25, false), (26, false), (27, false), (28, false), (30, false), (31, false), (32, false), (33, false), (34, false), (35, false), (29, false)]) mixed (by kernel_rfl) ?_; simp only [List.cons_append, List.nil_append, List.map_cons, List.map_nil, nthO_zero, nthO_succ, List.drop_succ_cons, List.drop_zero, List.drop_nil]; (repeat (first | simp (maxSteps := 40000000) (disch := omega) only [go_sem, ↓reduceIte] | with_reducible refine vIf_t ?_ | with_reducible refine vIf_f ?_)))
        (try (repeat (first | simp (maxSteps := 40000000) (disch := omega) only [go_sem, ↓reduceIte, gS, c1, e1] | with_reducible refine vIf_t ?_ | with_reducible refine vIf_f ?_)))
        (refine vsCallX_of ?_; (try (repeat (first | simp (maxSteps := 40000000) (disch := omega) only [go_sem, ↓reduceIte] | with_reducible refine vIf_t ?_ | with_reducible refine vIf_f ?_))); refine vCall_eq (hhas) (by simp (disch := omega) only [go_sem]) rfl (by first | exact Or.inl rfl | exact Or.inr ⟨rfl, rfl⟩ | (apply Or.inr; simp only [go_sem])) ?_; (try (repeat (first | simp (maxSteps := 40000000) (disch := omega) only [go_sem, ↓reduceIte] | with_reducible refine vIf_t ?_ | with_reducible refine vIf_f ?_))))
        (try (repeat (first | simp (maxSteps := 40000000) (disch := omega) only [go_sem, ↓reduceIte, gS, e2] | with_reducible refine vIf_t ?_ | with_reducible refine vIf_f ?_)))
        refine againF (i + 1) (by omega) (by omega) (by (first | (refine leF_s ?_; ((repeat (first | simp (maxSteps := 40000000) (disch := omega) only [go_sem, ↓reduceIte] | with_reducible refine vIf_t ?_ | with_reducible refine vIf_f ?_)); all_goals (try simp); all_goals (try omega)); done) | (refine leF_p ?_; ((repeat (first | simp (maxSteps := 40000000) (disch := omega) only [go_sem, ↓reduceIte] | with_reducible refine vIf_t ?_ | with_reducible refine vIf_f ?_)); all_goals (try simp); all_goals (try omega)); done)))
      · have e1 : decide (N i < N (i + 1)) = false := decide_eq_false (by omega)
        have e2 : decide (N (i + 1) < N i) = true := decide_eq_true q
        obtain ⟨f4, f5⟩ := f3 q
        have e4 : decide ((i : Int) < h) = false := decide_eq_false (by omega)
        rw [e1] at hhas
        (refine vDraw_sch 36 ([(0, false), (1, false), (2, false), (3, false), (4, false), (5, false), (6, false), (7, false), (8, false), (9, false), (10, false), (11, false), (12, false), (13, false), (14, false), (15, false), (16, false), (17, false), (18, false), (19, false)] ++ [(20, false), (21, false), (22, false), (23, false), (24, false), (25, false), (26, false), (27, false), (28, false), (30, false), (31, false), (32, false), (33, false), (34, false), (35, false), (29, false)]) mixed (by kernel_rfl) ?_; simp only [List.cons_append, List.nil_append, List.map_cons, List.map_nil, nthO_zero, nthO_succ, List.drop_succ_cons, List.drop_zero, List.drop_nil]; (repeat (first | simp (maxSteps := 40000000) (disch := omega) only [go_sem, ↓reduceIte] | with_reducible refine vIf_t ?_ | with_reducible refine vIf_f ?_)))
        (try (repeat (first | simp (maxSteps := 40000000) (disch := omega) only [go_sem, ↓reduceIte, gS, c1, e1] | with_reducible refine vIf_t ?_ | with_reducible refine vIf_f ?_)))
        (refine vsCallX_of ?_; (try (repeat (first | simp (maxSteps := 40000000) (disch := omega) only [go_sem, ↓reduceIte] | with_reducible refine vIf_t ?_ | with_reducible refine vIf_f ?_))); refine vCall_eq (hhas) (by simp (disch := omega) only [go_sem]) rfl (by first | exact Or.inl rfl | exact Or.inr ⟨rfl, rfl⟩ | (apply Or.inr; simp only [go_sem])) ?_; (try (repeat (first | simp (maxSteps := 40000000) (disch := omega) only [go_sem, ↓reduceIte] | with_reducible refine vIf_t ?_ | with_reducible refine vIf_f ?_))))
        (try (repeat (first | simp (maxSteps := 40000000) (disch := omega) only [go_sem, ↓reduceIte, gS, e2, e4] | with_reducible refine vIf_t ?_ | with_reducible refine vIf_f ?_)))
        refine vcLoop_invF (fun d : Nat => d ≤ h + 1) (fun d => ⟨215, 0, [(19, I ((i : Int) - h + d)), (18, I (mxZ sg (i - h) d)), (6, .sl ls.length (ints ls)), (5, .sl xs.length (ints xs)), (8, .sl ls.length (ints S)), (7, I h), (10, .sl E.length (ints E)), (1, .sl more.length (bts more)), (15, I i)], []⟩) (fun d => h + 1 - d) 0 (by omega) (by rw [hZ0]; (first | (refine leF_s ?_; ((repeat (first | simp (maxSteps := 40000000) (disch := omega) only [go_sem, ↓reduceIte] | with_reducible refine vIf_t ?_ | with_reducible refine vIf_f ?_)); all_goals (try simp); all_goals (try omega)); done) | (refine leF_p ?_; ((repeat (first | simp (maxSteps := 40000000) (disch := omega) only [go_sem, ↓reduceIte] | with_reducible refine vIf_t ?_ | with_reducible refine vIf_f ?_)); all_goals (try simp); all_goals (try omega)); done))) ?_
        intro d hd
        have b4 := hmz (i - h) d (fun j _ => (hbd _).2)
        (repeat (first | simp (maxSteps := 40000000) (disch := omega) only [go_sem, ↓reduceIte] | with_reducible refine vIf_t ?_ | with_reducible refine vIf_f ?_))
        by_cases c2 : d ≤ h
        · have d2 : decide ((i : Int) - h + d ≤ i) = true := decide_eq_true (by omega)
          have j1 : ((i : Int) - h + d).toNat = i - h + d := by omega
          have hlt : i - h + d < ls.length := by omega
          have ha2 := hAO (i - h + d) hlt
          have hz := hZS (i - h) d
          (try (repeat (first | simp (maxSteps := 40000000) (disch := omega) only [go_sem, ↓reduceIte, d2, j1] | with_reducible refine vIf_t ?_ | with_reducible refine vIf_f ?_)))
          (refine vCallX_of ?_; (repeat (first | simp (maxSteps := 40000000) (disch := omega) only [go_sem, ↓reduceIte] | with_reducible refine vIf_t ?_ | with_reducible refine vIf_f ?_)); refine vCall_eq (ha2) (by simp (disch := omega) only [go_sem]) rfl (by first | exact Or.inl rfl | exact Or.inr ⟨rfl, rfl⟩ | (apply Or.inr; simp only [go_sem])) ?_; (repeat (first | simp (maxSteps := 40000000) (disch := omega) only [go_sem, ↓reduceIte] | with_reducible refine vIf_t ?_ | with_reducible refine vIf_f ?_)))
          refine againF (d + 1) (by omega) (by omega) ?_
          rw [hz]
          (first | (refine leF_s ?_; ((repeat (first | simp (maxSteps := 40000000) (disch := omega) only [go_sem, ↓reduceIte] | with_reducible refine vIf_t ?_ | with_reducible refine vIf_f ?_)); all_goals (try simp); all_goals (try omega)); done) | (refine leF_p ?_; ((repeat (first | simp (maxSteps := 40000000) (disch := omega) only [go_sem, ↓reduceIte] | with_reducible refine vIf_t ?_ | with_reducible refine vIf_f ?_)); all_goals (try simp); all_goals (try omega)); done))
        · have d2 : decide ((i : Int) - h + d ≤ i) = false := decide_eq_false (by omega)
          have e5 : mxZ sg (i - h) d = N (i + 1) := by rw [← f5, show d = h + 1 by omega]
          rw [e5]
          (try (repeat (first | simp (maxSteps := 40000000) (disch := omega) only [go_sem, ↓reduceIte, d2, gS] | with_reducible refine vIf_t ?_ | with_reducible refine vIf_f ?_)))
          refine againF (i + 1) (by omega) (by omega) (by (first | (refine leF_s ?_; ((repeat (first | simp (maxSteps := 40000000) (disch := omega) only [go_sem, ↓reduceIte] | with_reducible refine vIf_t ?_ | with_reducible refine vIf_f ?_)); all_goals (try simp); all_goals (try omega)); done) | (refine leF_p ?_; ((repeat (first | simp (maxSteps := 40000000) (disch := omega) only [go_sem, ↓reduceIte] | with_reducible refine vIf_t ?_ | with_reducible refine vIf_f ?_)); all_goals (try simp); all_goals (try omega)); done)))
    · clear hi hc
      (repeat (first | simp (maxSteps := 40000000) (disch := omega) only [go_sem, ↓reduceIte] | with_reducible refine vIf_t ?_ | with_reducible refine vIf_f ?_))
      (refine vCallX_of ?_; (repeat (first | simp (maxSteps := 40000000) (disch := omega) only [go_sem, ↓reduceIte] | with_reducible refine vIf_t ?_ | with_reducible refine vIf_f ?_)); refine vCall_ex (hat) (by simp (disch := omega) only [go_sem]) rfl ?_); rintro _ _ ⟨v, rfl, rfl, hv3, hv4⟩; (refine ⟨(by first | exact Or.inl rfl | exact Or.inr ⟨rfl, rfl⟩ | (apply Or.inr; simp only [go_sem])), ?_⟩; (repeat (first | simp (maxSteps := 40000000) (disch := omega) only [go_sem, ↓reduceIte] | with_reducible refine vIf_t ?_ | with_reducible refine vIf_f ?_)))
      (refine vCallX_keep [22, 6, 5, 180, 181, 182] rfl ?_; (repeat (first | simp (maxSteps := 40000000) (disch := omega) only [go_sem, ↓reduceIte] | with_reducible refine vIf_t ?_ | with_reducible refine vIf_f ?_)))
      (refine vCallX_of ?_; (repeat (first | simp (maxSteps := 40000000) (disch := omega) only [go_sem, ↓reduceIte] | with_reducible refine vIf_t ?_ | with_reducible refine vIf_f ?_)); refine vCall_ex (hW (1 + v) ⟨by omega, by omega⟩) (by simp (disch := omega) only [go_sem]) rfl ?_); rintro _ _ ⟨t, c, rfl, rfl, hwt⟩; (refine ⟨(by first | exact Or.inl rfl | exact Or.inr ⟨rfl, rfl⟩ | (apply Or.inr; simp only [go_sem])), ?_⟩; (repeat (first | simp (maxSteps := 40000000) (disch := omega) only [go_sem, ↓reduceIte] | with_reducible refine vIf_t ?_ | with_reducible refine vIf_f ?_)))
      refine vcLoop_invF (fun i : Nat => i ≤ ls.length ∧ ∀ j, j < i → sg j < 1 + v) (fun i => ⟨215, 0, [(25, I i), (23, I t), (24, I c), (22, I (1 + v)), (6, .sl ls.length (ints ls)), (5, .sl xs.length (ints xs))], []⟩) (fun i => ls.length - i) 0 ⟨by omega, fun j hj => by omega⟩ (by (first | (refine leF_s ?_; ((repeat (first | simp (maxSteps := 40000000) (disch := omega) only [go_sem, ↓reduceIte] | with_reducible refine vIf_t ?_ | with_reducible refine vIf_f ?_)); all_goals (try simp); all_goals (try omega)); done) | (refine leF_p ?_; ((repeat (first | simp (maxSteps := 40000000) (disch := omega) only [go_sem, ↓reduceIte] | with_reducible refine vIf_t ?_ | with_reducible refine vIf_f ?_)); all_goals (try simp); all_goals (try omega)); done))) ?_
      rintro i ⟨hi, hj⟩
      (repeat (first | simp (maxSteps := 40000000) (disch := omega) only [go_sem, ↓reduceIte] | with_reducible refine vIf_t ?_ | with_reducible refine vIf_f ?_))
      refine vIf_dec (fun hc => ?_) (fun hc => ?_)
      · have hil : i < ls.length := by omega
        have ha := hAS i hil
        have b3 := hbd i
        (repeat (first | simp (maxSteps := 40000000) (disch := omega) only [go_sem, ↓reduceIte] | with_reducible refine vIf_t ?_ | with_reducible refine vIf_f ?_))
        (refine vCallX_of ?_; (repeat (first | simp (maxSteps := 40000000) (disch := omega) only [go_sem, ↓reduceIte] | with_reducible refine vIf_t ?_ | with_reducible refine vIf_f ?_)); refine vCall_eq (ha) (by simp (disch := omega) only [go_sem]) rfl (by first | exact Or.inl rfl | exact Or.inr ⟨rfl, rfl⟩ | (apply Or.inr; simp only [go_sem])) ?_; (repeat (first | simp (maxSteps := 40000000) (disch := omega) only [go_sem, ↓reduceIte] | with_reducible refine vIf_t ?_ | with_reducible refine vIf_f ?_)))
        by_cases q : 1 + v ≤ sg i
        · have e1 := decide_eq_true q
          have hti : c = 0 ∧ t = i := by
            rcases hwt with ⟨h1, i0, h2, h3, h4, h5⟩ | ⟨h1, h2⟩
            · refine ⟨h1, ?_⟩
              rcases Nat.lt_trichotomy i i0 with h6 | h6 | h6
              · have := h5 i h6; omega
              · omega
              · have := hj i0 h6; omega
            · have := h2 i hil; omega
          rw [hti.1, hti.2]
          (try (repeat (first | simp (maxSteps := 40000000) (disch := omega) only [go_sem, ↓reduceIte, e1] | with_reducible refine vIf_t ?_ | with_reducible refine vIf_f ?_)))
          (refine retK_of ?_; (repeat (first | simp (maxSteps := 40000000) (disch := omega) only [go_sem, ↓reduceIte] | with_reducible refine vIf_t ?_ | with_reducible refine vIf_f ?_)))
        · have e1 : decide (1 + v ≤ sg i) = false := decide_eq_false q
          (try (repeat (first | simp (maxSteps := 40000000) (disch := omega) only [go_sem, ↓reduceIte, e1] | with_reducible refine vIf_t ?_ | with_reducible refine vIf_f ?_)))
          refine againF (i + 1) ⟨by omega, fun j hjk => ?_⟩ (by omega) (by (first | (refine leF_s ?_; ((repeat (first | simp (maxSteps := 40000000) (disch := omega) only [go_sem, ↓reduceIte] | with_reducible refine vIf_t ?_ | with_reducible refine vIf_f ?_)); all_goals (try simp); all_goals (try omega)); done) | (refine leF_p ?_; ((repeat (first | simp (maxSteps := 40000000) (disch := omega) only [go_sem, ↓reduceIte] | with_reducible refine vIf_t ?_ | with_reducible refine vIf_f ?_)); all_goals (try simp); all_goals (try omega)); done)))
          rcases Nat.lt_succ_iff_lt_or_eq.1 hjk with h2 | rfl
          · exact hj j h2
          · omega
      · have hc3 : c = 3 := by
          rcases hwt with ⟨h1, i0, h2, h3, h4, h5⟩ | ⟨h1, h2⟩
          · have := hj i0 (by omega); omega
          · exact h1
        rw [hc3]
        (repeat (first | simp (maxSteps := 40000000) (disch := omega) only [go_sem, ↓reduceIte] | with_reducible refine vIf_t ?_ | with_reducible refine vIf_f ?_))
        (refine retK_of ?_; (repeat (first | simp (maxSteps := 40000000) (disch := omega) only [go_sem, ↓reduceIte] | with_reducible refine vIf_t ?_ | with_reducible refine vIf_f ?_)))
end Go.Proofs.YtjgjnedenapemaaGreatDoor

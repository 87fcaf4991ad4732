/- the law of closings -/
import Derived.Test.YthffpidjpgogdaaBre3
import Derived.Test.YthffpidjpgogdaaA2
set_option linter.unusedVariables false
set_option linter.unusedSimpArgs false
namespace Go.Proofs.Ythffpidjpgogdaa
-- steps 40000000
open Go.AG

theorem zH_keep {c : Cv} {b : Bre} {xs : List Int} {n : Int} {R : Option Nat} (hR : brZ c b xs n (xs.length + 1) = R) (k : Nat) (hk : k ≤ xs.length) (h : 0 ≤ zH (brZ c b xs n (k + 1)) ∨ k = xs.length) : zH (brZ c b xs n (k + 1)) = zH R := by
  rcases h with h | h
  · cases e : brZ c b xs n (k + 1) with
    | none => rw [e] at h; simp [zH] at h
    | some j => rw [← hR, brZ_keep e (by omega)]
  · rw [h, hR]
theorem zH_step {c : Cv} {b : Bre} {xs : List Int} {n : Int} {k : Nat} (h : zH (brZ c b xs n (k + 1)) < 0) : zH (brZ c b xs n (k + 2)) = if (brK c b xs n (k + 1)).wd = 0 then ((k + 1 : Nat) : Int) else -1 := by
  have e0 : brZ c b xs n (k + 1) = none := by
    cases e : brZ c b xs n (k + 1) with
    | none => rfl
    | some j => rw [e] at h; simp only [zH] at h; omega
  rw [show k + 2 = (k + 1) + 1 from rfl, brZ, e0]
  simp only
  split <;> rfl
theorem zH_zero (c : Cv) (b : Bre) (xs : List Int) (n : Int) : zH (brZ c b xs n 1) = if b.wd = 0 then 0 else -1 := by
  by_cases h : b.wd = 0 <;> simp [brZ, brK, h, zH]
open Classical in
set_option maxRecDepth 100000 in
set_option maxHeartbeats 32000000 in
theorem closingsLaw_ok (code more : List Int) (hb : bOk code) (hl : code.length ≤ 9223372036854775807) (hb' : bOk more) (hl' : more.length ≤ 9223372036854775807) : ACalls Try.prog 5 [bS code, bS more] [] (fun r o => r = B true ∧ o = []) := by
  refine ACalls.of_vc Try.func5 rfl (by decide) 171 rfl [.tmp 4] rfl (by simp) ?_
  have hlong := a2Long_ok code more hl hl'
  unfold bS at hlong ⊢
  (repeat (first | simp (maxSteps := 40000000) (disch := omega) only [go_sem, Nat.reduceEqDiff, Nat.reduceAdd, Nat.reduceMul, Nat.reduceSub, Int.reduceToNat, Int.reduceAdd, Int.reduceSub, Int.reduceMul, Int.reduceNeg] | refine vIf_t ?_ | refine vIf_f ?_))
  (refine vCallX_of ?_; (repeat (first | simp (maxSteps := 40000000) (disch := omega) only [go_sem, Nat.reduceEqDiff, Nat.reduceAdd, Nat.reduceMul, Nat.reduceSub, Int.reduceToNat, Int.reduceAdd, Int.reduceSub, Int.reduceMul, Int.reduceNeg] | refine vIf_t ?_ | refine vIf_f ?_)); refine vCall_eq (hlong) (by simp (disch := omega) only [go_sem, Nat.reduceAdd]) rfl (by first | exact Or.inl rfl | exact Or.inr ⟨rfl, rfl⟩ | (apply Or.inr; simp only [go_sem])) ?_; (repeat (first | simp (maxSteps := 40000000) (disch := omega) only [go_sem, Nat.reduceEqDiff, Nat.reduceAdd, Nat.reduceMul, Nat.reduceSub, Int.reduceToNat, Int.reduceAdd, Int.reduceSub, Int.reduceMul, Int.reduceNeg] | refine vIf_t ?_ | refine vIf_f ?_)))
  cases hlg : (decide (3000 < (code.length : Int)) || decide (3000 < (more.length : Int))) with
  | true =>
    refine vIf_t ?_
    (repeat (first | simp (maxSteps := 40000000) (disch := omega) only [go_sem, Nat.reduceEqDiff, Nat.reduceAdd, Nat.reduceMul, Nat.reduceSub, Int.reduceToNat, Int.reduceAdd, Int.reduceSub, Int.reduceMul, Int.reduceNeg] | refine vIf_t ?_ | refine vIf_f ?_))
    (refine retK_of ?_; (repeat (first | simp (maxSteps := 40000000) (disch := omega) only [go_sem, Nat.reduceEqDiff, Nat.reduceAdd, Nat.reduceMul, Nat.reduceSub, Int.reduceToNat, Int.reduceAdd, Int.reduceSub, Int.reduceMul, Int.reduceNeg] | refine vIf_t ?_ | refine vIf_f ?_)))
  | false =>
    refine vIf_f ?_
    simp only [Bool.or_eq_false_iff, decide_eq_false_iff_not] at hlg
    have g : SrOk code := ⟨hb, by omega⟩
    have gm : SrOk more := ⟨hb', by omega⟩
    have d1 := a2Breach_e g
    have d2 := a2Levels_e gm
    have d3 := a2At_e more 30 40 hb' (by omega) (by omega) (by omega)
    have d4 := a2At_e more 31 40 hb' (by omega) (by omega) (by omega)
    unfold bS at d1 d2 d3 d4
    (repeat (first | simp (maxSteps := 40000000) (disch := omega) only [go_sem, Nat.reduceEqDiff, Nat.reduceAdd, Nat.reduceMul, Nat.reduceSub, Int.reduceToNat, Int.reduceAdd, Int.reduceSub, Int.reduceMul, Int.reduceNeg] | refine vIf_t ?_ | refine vIf_f ?_))
    (refine vCallX_of ?_; (repeat (first | simp (maxSteps := 40000000) (disch := omega) only [go_sem, Nat.reduceEqDiff, Nat.reduceAdd, Nat.reduceMul, Nat.reduceSub, Int.reduceToNat, Int.reduceAdd, Int.reduceSub, Int.reduceMul, Int.reduceNeg] | refine vIf_t ?_ | refine vIf_f ?_)); refine vCall_ex (d1) (by simp (disch := omega) only [go_sem, Nat.reduceAdd]) rfl ?_); rintro _ _ ⟨c, b, rfl, rfl, hok, hB⟩; (refine ⟨(by first | exact Or.inl rfl | exact Or.inr ⟨rfl, rfl⟩ | (apply Or.inr; simp only [go_sem])), ?_⟩; (repeat (first | simp (maxSteps := 40000000) (disch := omega) only [go_sem, Nat.reduceEqDiff, Nat.reduceAdd, Nat.reduceMul, Nat.reduceSub, Int.reduceToNat, Int.reduceAdd, Int.reduceSub, Int.reduceMul, Int.reduceNeg] | refine vIf_t ?_ | refine vIf_f ?_)))
    unfold Cv.cells Bre.cells
    (repeat (first | simp (maxSteps := 40000000) (disch := omega) only [go_sem, Nat.reduceEqDiff, Nat.reduceAdd, Nat.reduceMul, Nat.reduceSub, Int.reduceToNat, Int.reduceAdd, Int.reduceSub, Int.reduceMul, Int.reduceNeg] | refine vIf_t ?_ | refine vIf_f ?_))
    (refine vCallX_of ?_; (repeat (first | simp (maxSteps := 40000000) (disch := omega) only [go_sem, Nat.reduceEqDiff, Nat.reduceAdd, Nat.reduceMul, Nat.reduceSub, Int.reduceToNat, Int.reduceAdd, Int.reduceSub, Int.reduceMul, Int.reduceNeg] | refine vIf_t ?_ | refine vIf_f ?_)); refine vCall_ex (d2) (by simp (disch := omega) only [go_sem, Nat.reduceAdd]) rfl ?_); rintro _ _ ⟨xs, rfl, rfl, hx, hxn⟩; (refine ⟨(by first | exact Or.inl rfl | exact Or.inr ⟨rfl, rfl⟩ | (apply Or.inr; simp only [go_sem])), ?_⟩; (repeat (first | simp (maxSteps := 40000000) (disch := omega) only [go_sem, Nat.reduceEqDiff, Nat.reduceAdd, Nat.reduceMul, Nat.reduceSub, Int.reduceToNat, Int.reduceAdd, Int.reduceSub, Int.reduceMul, Int.reduceNeg] | refine vIf_t ?_ | refine vIf_f ?_)))
    (refine vCallX_of ?_; (repeat (first | simp (maxSteps := 40000000) (disch := omega) only [go_sem, Nat.reduceEqDiff, Nat.reduceAdd, Nat.reduceMul, Nat.reduceSub, Int.reduceToNat, Int.reduceAdd, Int.reduceSub, Int.reduceMul, Int.reduceNeg] | refine vIf_t ?_ | refine vIf_f ?_)); refine vCall_ex (d3) (by simp (disch := omega) only [go_sem, Nat.reduceAdd]) rfl ?_); rintro _ _ ⟨n, rfl, rfl, hn1, hn2⟩; (refine ⟨(by first | exact Or.inl rfl | exact Or.inr ⟨rfl, rfl⟩ | (apply Or.inr; simp only [go_sem])), ?_⟩; (repeat (first | simp (maxSteps := 40000000) (disch := omega) only [go_sem, Nat.reduceEqDiff, Nat.reduceAdd, Nat.reduceMul, Nat.reduceSub, Int.reduceToNat, Int.reduceAdd, Int.reduceSub, Int.reduceMul, Int.reduceNeg] | refine vIf_t ?_ | refine vIf_f ?_)))
    have hX : BrX c b xs := ⟨hB, hok, hx, by omega⟩
    have hnb : 0 ≤ n ∧ n ≤ 1000 := by omega
    obtain ⟨R, hR⟩ : ∃ R, brZ c b xs n (xs.length + 1) = R := ⟨_, rfl⟩
    have h1 := hoursTo_ok c b xs n hX hnb R hR
    have h2 := stonesNeeded_ok c b xs n hX hnb R hR
    unfold Cv.cells Bre.cells at h1 h2
    obtain ⟨hrs, one, us, e1, e2, hcase⟩ : ∃ hrs one us : Int, (if R.isSome = true then V.tup [I (zH R), I 0] else .tup [I 0, I 3]) = .tup [I hrs, I one] ∧ (if R.isSome = true then V.tup [I (zT c b xs n R), I 0] else .tup [I 0, I 3]) = .tup [I us, I one] ∧
        ((one = 0 ∧ hrs = zH R ∧ 0 ≤ hrs ∧ hrs ≤ 9 ∧ us ≤ n * hrs ∧ b.wd ≤ us) ∨ (one = 3 ∧ zH R = -1)) := by
      cases hr : R with
      | none => exact ⟨0, 3, 0, rfl, rfl, .inr ⟨rfl, rfl⟩⟩
      | some k =>
        rw [hr] at hR
        obtain ⟨g1, g2, g3⟩ := brZ_some hR
        obtain ⟨t1, t2, t3, t4⟩ := brT_bd hX n hnb k (by omega)
        exact ⟨k, 0, brT c b xs n k, rfl, rfl, .inl ⟨rfl, rfl, by omega, by omega, t2, by omega⟩⟩
    rw [e1] at h1
    rw [e2] at h2
    (refine vCallX_fz 2 _ rfl (by (repeat (first | simp (maxSteps := 40000000) (disch := omega) only [go_sem, Nat.reduceEqDiff, Nat.reduceAdd, Nat.reduceMul, Nat.reduceSub, Int.reduceToNat, Int.reduceAdd, Int.reduceSub, Int.reduceMul, Int.reduceNeg] | refine vIf_t ?_ | refine vIf_f ?_))) ?_; (repeat (first | simp (maxSteps := 40000000) (disch := omega) only [go_sem, Nat.reduceEqDiff, Nat.reduceAdd, Nat.reduceMul, Nat.reduceSub, Int.reduceToNat, Int.reduceAdd, Int.reduceSub, Int.reduceMul, Int.reduceNeg] | refine vIf_t ?_ | refine vIf_f ?_)))
    (refine vCallX_of ?_; (repeat (first | simp (maxSteps := 40000000) (disch := omega) only [go_sem, Nat.reduceEqDiff, Nat.reduceAdd, Nat.reduceMul, Nat.reduceSub, Int.reduceToNat, Int.reduceAdd, Int.reduceSub, Int.reduceMul, Int.reduceNeg] | refine vIf_t ?_ | refine vIf_f ?_)); refine vCall_eq (h1) (by simp (disch := omega) only [go_sem, Nat.reduceAdd]) rfl (by first | exact Or.inl rfl | exact Or.inr ⟨rfl, rfl⟩ | (apply Or.inr; simp only [go_sem])) ?_; (repeat (first | simp (maxSteps := 40000000) (disch := omega) only [go_sem, Nat.reduceEqDiff, Nat.reduceAdd, Nat.reduceMul, Nat.reduceSub, Int.reduceToNat, Int.reduceAdd, Int.reduceSub, Int.reduceMul, Int.reduceNeg] | refine vIf_t ?_ | refine vIf_f ?_)))
    (refine vCallX_of ?_; (repeat (first | simp (maxSteps := 40000000) (disch := omega) only [go_sem, Nat.reduceEqDiff, Nat.reduceAdd, Nat.reduceMul, Nat.reduceSub, Int.reduceToNat, Int.reduceAdd, Int.reduceSub, Int.reduceMul, Int.reduceNeg] | refine vIf_t ?_ | refine vIf_f ?_)); refine vCall_eq (h2) (by simp (disch := omega) only [go_sem, Nat.reduceAdd]) rfl (by first | exact Or.inl rfl | exact Or.inr ⟨rfl, rfl⟩ | (apply Or.inr; simp only [go_sem])) ?_; (repeat (first | simp (maxSteps := 40000000) (disch := omega) only [go_sem, Nat.reduceEqDiff, Nat.reduceAdd, Nat.reduceMul, Nat.reduceSub, Int.reduceToNat, Int.reduceAdd, Int.reduceSub, Int.reduceMul, Int.reduceNeg] | refine vIf_t ?_ | refine vIf_f ?_)))
    have hone : (one != one) = false := by simp
    (try (repeat (first | simp (maxSteps := 40000000) (disch := omega) only [go_sem, Nat.reduceEqDiff, Nat.reduceAdd, Nat.reduceMul, Nat.reduceSub, Int.reduceToNat, Int.reduceAdd, Int.reduceSub, Int.reduceMul, Int.reduceNeg, hone] | refine vIf_t ?_ | refine vIf_f ?_)))
    refine vcLoop_invF (fun k : Nat => k ≤ xs.length) (fun k => ⟨171, 0, [(14, I k), (8, I n), (5, .ptr 0 0), (6, .ptr 1 0), (13, .ref 2 0 k), (7, .sl xs.length (ints xs)), (1, .sl more.length (bts more)), (11, I us), (9, I hrs), (10, I one)], [some ⟨2, [.sl c.lv.length (ints c.lv), .sl c.vl.length (ints c.vl)]⟩, some ⟨3, [I b.wd, I b.sl, I b.wt]⟩, oI (List.replicate k n)]⟩) (fun k => xs.length - k) 0 (by omega) (by (first | (refine leF_s ?_; ((repeat (first | simp (maxSteps := 40000000) (disch := omega) only [go_sem, Nat.reduceEqDiff, Nat.reduceAdd, Nat.reduceMul, Nat.reduceSub, Int.reduceToNat, Int.reduceAdd, Int.reduceSub, Int.reduceMul, Int.reduceNeg] | refine vIf_t ?_ | refine vIf_f ?_)); all_goals (try simp); all_goals (try omega)); done) | (refine leF_p ?_; ((repeat (first | simp (maxSteps := 40000000) (disch := omega) only [go_sem, Nat.reduceEqDiff, Nat.reduceAdd, Nat.reduceMul, Nat.reduceSub, Int.reduceToNat, Int.reduceAdd, Int.reduceSub, Int.reduceMul, Int.reduceNeg] | refine vIf_t ?_ | refine vIf_f ?_)); all_goals (try simp); all_goals (try omega)); done))) ?_
    intro k hk
    (repeat (first | simp (maxSteps := 40000000) (disch := omega) only [go_sem, Nat.reduceEqDiff, Nat.reduceAdd, Nat.reduceMul, Nat.reduceSub, Int.reduceToNat, Int.reduceAdd, Int.reduceSub, Int.reduceMul, Int.reduceNeg] | refine vIf_t ?_ | refine vIf_f ?_))
    refine vIf_dec (fun h3 => ?_) (fun h3 => ?_)
    · have er : List.replicate k n ++ [n] = List.replicate (k + 1) n := by rw [List.replicate_succ']
      (repeat (first | simp (maxSteps := 40000000) (disch := omega) only [go_sem, Nat.reduceEqDiff, Nat.reduceAdd, Nat.reduceMul, Nat.reduceSub, Int.reduceToNat, Int.reduceAdd, Int.reduceSub, Int.reduceMul, Int.reduceNeg] | refine vIf_t ?_ | refine vIf_f ?_))
      refine againF (k + 1) (by omega) (by omega) ?_
      rw [← er]
      (first | (refine leF_s ?_; ((repeat (first | simp (maxSteps := 40000000) (disch := omega) only [go_sem, Nat.reduceEqDiff, Nat.reduceAdd, Nat.reduceMul, Nat.reduceSub, Int.reduceToNat, Int.reduceAdd, Int.reduceSub, Int.reduceMul, Int.reduceNeg] | refine vIf_t ?_ | refine vIf_f ?_)); all_goals (try simp); all_goals (try omega)); done) | (refine leF_p ?_; ((repeat (first | simp (maxSteps := 40000000) (disch := omega) only [go_sem, Nat.reduceEqDiff, Nat.reduceAdd, Nat.reduceMul, Nat.reduceSub, Int.reduceToNat, Int.reduceAdd, Int.reduceSub, Int.reduceMul, Int.reduceNeg] | refine vIf_t ?_ | refine vIf_f ?_)); all_goals (try simp); all_goals (try omega)); done))
    · have ek : k = xs.length := by omega
      subst ek
      have hr := runBreach_ok c b xs n hX hnb
      unfold Cv.cells Bre.cells at hr
      (repeat (first | simp (maxSteps := 40000000) (disch := omega) only [go_sem, Nat.reduceEqDiff, Nat.reduceAdd, Nat.reduceMul, Nat.reduceSub, Int.reduceToNat, Int.reduceAdd, Int.reduceSub, Int.reduceMul, Int.reduceNeg] | refine vIf_t ?_ | refine vIf_f ?_))
      (refine vCallX_of ?_; (repeat (first | simp (maxSteps := 40000000) (disch := omega) only [go_sem, Nat.reduceEqDiff, Nat.reduceAdd, Nat.reduceMul, Nat.reduceSub, Int.reduceToNat, Int.reduceAdd, Int.reduceSub, Int.reduceMul, Int.reduceNeg] | refine vIf_t ?_ | refine vIf_f ?_)); refine vCall_eq (hr) (by simp (disch := omega) only [go_sem, Nat.reduceAdd]) rfl (by first | exact Or.inl rfl | exact Or.inr ⟨rfl, rfl⟩ | (apply Or.inr; simp only [go_sem])) ?_; (repeat (first | simp (maxSteps := 40000000) (disch := omega) only [go_sem, Nat.reduceEqDiff, Nat.reduceAdd, Nat.reduceMul, Nat.reduceSub, Int.reduceToNat, Int.reduceAdd, Int.reduceSub, Int.reduceMul, Int.reduceNeg] | refine vIf_t ?_ | refine vIf_f ?_)))
      have er := brR_len c b xs n xs.length
      have hneg : ∀ k, zH (brZ c b xs n k) < 0 → zH (brZ c b xs n k) = -1 := fun k h => by
        cases e : brZ c b xs n k with
        | none => rfl
        | some j => rw [e] at h; simp only [zH] at h; omega
      refine vIf_join1 ⟨171, 0, [(5, .ptr 0 0), (6, .ptr 1 0), (15, .ref 2 0 xs.length), (7, .sl xs.length (ints xs)), (1, .sl more.length (bts more)), (11, I us), (9, I hrs), (8, I n), (17, I (zH (brZ c b xs n 1))), (10, I one)], [some ⟨2, [.sl c.lv.length (ints c.lv), .sl c.vl.length (ints c.vl)]⟩, some ⟨3, [I b.wd, I b.sl, I b.wt]⟩, some ⟨3, cBre (brR c b xs n xs.length)⟩]⟩ (fun h => ?_) (fun h => ?_) ?_
      · have hw : b.wd = 0 := by simpa using h
        have hz := zH_zero c b xs n
        rw [if_pos hw] at hz
        (repeat (first | simp (maxSteps := 40000000) (disch := omega) only [go_sem, Nat.reduceEqDiff, Nat.reduceAdd, Nat.reduceMul, Nat.reduceSub, Int.reduceToNat, Int.reduceAdd, Int.reduceSub, Int.reduceMul, Int.reduceNeg] | refine vIf_t ?_ | refine vIf_f ?_))
        refine jnF () trivial ?_
        rw [hz]
        (first | (refine leF_s ?_; ((repeat (first | simp (maxSteps := 40000000) (disch := omega) only [go_sem, Nat.reduceEqDiff, Nat.reduceAdd, Nat.reduceMul, Nat.reduceSub, Int.reduceToNat, Int.reduceAdd, Int.reduceSub, Int.reduceMul, Int.reduceNeg] | refine vIf_t ?_ | refine vIf_f ?_)); all_goals (try simp); all_goals (try omega)); done) | (refine leF_p ?_; ((repeat (first | simp (maxSteps := 40000000) (disch := omega) only [go_sem, Nat.reduceEqDiff, Nat.reduceAdd, Nat.reduceMul, Nat.reduceSub, Int.reduceToNat, Int.reduceAdd, Int.reduceSub, Int.reduceMul, Int.reduceNeg] | refine vIf_t ?_ | refine vIf_f ?_)); all_goals (try simp); all_goals (try omega)); done))
      · have hw : b.wd ≠ 0 := by simpa using h
        have hz := zH_zero c b xs n
        rw [if_neg hw] at hz
        (repeat (first | simp (maxSteps := 40000000) (disch := omega) only [go_sem, Nat.reduceEqDiff, Nat.reduceAdd, Nat.reduceMul, Nat.reduceSub, Int.reduceToNat, Int.reduceAdd, Int.reduceSub, Int.reduceMul, Int.reduceNeg] | refine vIf_t ?_ | refine vIf_f ?_))
        refine jnF () trivial ?_
        rw [hz]
        (first | (refine leF_s ?_; ((repeat (first | simp (maxSteps := 40000000) (disch := omega) only [go_sem, Nat.reduceEqDiff, Nat.reduceAdd, Nat.reduceMul, Nat.reduceSub, Int.reduceToNat, Int.reduceAdd, Int.reduceSub, Int.reduceMul, Int.reduceNeg] | refine vIf_t ?_ | refine vIf_f ?_)); all_goals (try simp); all_goals (try omega)); done) | (refine leF_p ?_; ((repeat (first | simp (maxSteps := 40000000) (disch := omega) only [go_sem, Nat.reduceEqDiff, Nat.reduceAdd, Nat.reduceMul, Nat.reduceSub, Int.reduceToNat, Int.reduceAdd, Int.reduceSub, Int.reduceMul, Int.reduceNeg] | refine vIf_t ?_ | refine vIf_f ?_)); all_goals (try simp); all_goals (try omega)); done))
      · (repeat (first | simp (maxSteps := 40000000) (disch := omega) only [go_sem, Nat.reduceEqDiff, Nat.reduceAdd, Nat.reduceMul, Nat.reduceSub, Int.reduceToNat, Int.reduceAdd, Int.reduceSub, Int.reduceMul, Int.reduceNeg] | refine vIf_t ?_ | refine vIf_f ?_))
        refine vcLoop_join 2 (fun _ : Unit => True) (fun _ => ⟨171, 0, [(5, .ptr 0 0), (6, .ptr 1 0), (15, .ref 2 0 xs.length), (7, .sl xs.length (ints xs)), (1, .sl more.length (bts more)), (11, I us), (9, I hrs), (8, I n), (17, I (zH R)), (10, I one)], [some ⟨2, [.sl c.lv.length (ints c.lv), .sl c.vl.length (ints c.vl)]⟩, some ⟨3, [I b.wd, I b.sl, I b.wt]⟩, some ⟨3, cBre (brR c b xs n xs.length)⟩]⟩) (fun k : Nat => k ≤ xs.length) (fun k => ⟨171, 0, [(18, I k), (5, .ptr 0 0), (6, .ptr 1 0), (15, .ref 2 0 xs.length), (7, .sl xs.length (ints xs)), (1, .sl more.length (bts more)), (11, I us), (9, I hrs), (8, I n), (17, I (zH (brZ c b xs n (k + 1)))), (10, I one)], [some ⟨2, [.sl c.lv.length (ints c.lv), .sl c.vl.length (ints c.vl)]⟩, some ⟨3, [I b.wd, I b.sl, I b.wt]⟩, some ⟨3, cBre (brR c b xs n xs.length)⟩]⟩) (fun k => xs.length - k) 0 (by omega) (by (first | (refine leF_s ?_; ((repeat (first | simp (maxSteps := 40000000) (disch := omega) only [go_sem, Nat.reduceEqDiff, Nat.reduceAdd, Nat.reduceMul, Nat.reduceSub, Int.reduceToNat, Int.reduceAdd, Int.reduceSub, Int.reduceMul, Int.reduceNeg] | refine vIf_t ?_ | refine vIf_f ?_)); all_goals (try simp); all_goals (try omega)); done) | (refine leF_p ?_; ((repeat (first | simp (maxSteps := 40000000) (disch := omega) only [go_sem, Nat.reduceEqDiff, Nat.reduceAdd, Nat.reduceMul, Nat.reduceSub, Int.reduceToNat, Int.reduceAdd, Int.reduceSub, Int.reduceMul, Int.reduceNeg] | refine vIf_t ?_ | refine vIf_f ?_)); all_goals (try simp); all_goals (try omega)); done))) ?_ ?_
        · intro k hk
          have hkeep := zH_keep hR k hk
          have hstep := zH_step (c := c) (b := b) (xs := xs) (n := n) (k := k)
          have hng := hneg (k + 1)
          obtain ⟨z, hz⟩ : ∃ z, zH (brZ c b xs n (k + 1)) = z := ⟨_, rfl⟩
          rw [hz] at hkeep hstep hng ⊢
          by_cases h6 : (k : Int) < xs.length
          · have d6 : decide ((k : Int) < xs.length) = true := decide_eq_true h6
            by_cases h7 : z < 0
            · have d7 : decide (z < 0) = true := decide_eq_true h7
              have eg := brR_get c b xs n xs.length k (by omega)
              have hs := hstep h7
              have hz1 := hng h7
              subst hz1
              (repeat (first | simp (maxSteps := 40000000) (disch := omega) only [go_sem, Nat.reduceEqDiff, Nat.reduceAdd, Nat.reduceMul, Nat.reduceSub, Int.reduceToNat, Int.reduceAdd, Int.reduceSub, Int.reduceMul, Int.reduceNeg, d6] | refine vIf_t ?_ | refine vIf_f ?_))
              (try (repeat (first | simp (maxSteps := 40000000) (disch := omega) only [go_sem, Nat.reduceEqDiff, Nat.reduceAdd, Nat.reduceMul, Nat.reduceSub, Int.reduceToNat, Int.reduceAdd, Int.reduceSub, Int.reduceMul, Int.reduceNeg, eg] | refine vIf_t ?_ | refine vIf_f ?_)))
              refine vIf_beq (fun h8 => ?_) (fun h8 => ?_)
              · rw [if_pos h8] at hs
                (repeat (first | simp (maxSteps := 40000000) (disch := omega) only [go_sem, Nat.reduceEqDiff, Nat.reduceAdd, Nat.reduceMul, Nat.reduceSub, Int.reduceToNat, Int.reduceAdd, Int.reduceSub, Int.reduceMul, Int.reduceNeg] | refine vIf_t ?_ | refine vIf_f ?_))
                refine againF (k + 1) (by omega) (by omega) ?_
                rw [hs]
                (first | (refine leF_s ?_; ((repeat (first | simp (maxSteps := 40000000) (disch := omega) only [go_sem, Nat.reduceEqDiff, Nat.reduceAdd, Nat.reduceMul, Nat.reduceSub, Int.reduceToNat, Int.reduceAdd, Int.reduceSub, Int.reduceMul, Int.reduceNeg] | refine vIf_t ?_ | refine vIf_f ?_)); all_goals (try simp); all_goals (try omega)); done) | (refine leF_p ?_; ((repeat (first | simp (maxSteps := 40000000) (disch := omega) only [go_sem, Nat.reduceEqDiff, Nat.reduceAdd, Nat.reduceMul, Nat.reduceSub, Int.reduceToNat, Int.reduceAdd, Int.reduceSub, Int.reduceMul, Int.reduceNeg] | refine vIf_t ?_ | refine vIf_f ?_)); all_goals (try simp); all_goals (try omega)); done))
              · rw [if_neg h8] at hs
                (repeat (first | simp (maxSteps := 40000000) (disch := omega) only [go_sem, Nat.reduceEqDiff, Nat.reduceAdd, Nat.reduceMul, Nat.reduceSub, Int.reduceToNat, Int.reduceAdd, Int.reduceSub, Int.reduceMul, Int.reduceNeg] | refine vIf_t ?_ | refine vIf_f ?_))
                refine againF (k + 1) (by omega) (by omega) ?_
                rw [hs]
                (first | (refine leF_s ?_; ((repeat (first | simp (maxSteps := 40000000) (disch := omega) only [go_sem, Nat.reduceEqDiff, Nat.reduceAdd, Nat.reduceMul, Nat.reduceSub, Int.reduceToNat, Int.reduceAdd, Int.reduceSub, Int.reduceMul, Int.reduceNeg] | refine vIf_t ?_ | refine vIf_f ?_)); all_goals (try simp); all_goals (try omega)); done) | (refine leF_p ?_; ((repeat (first | simp (maxSteps := 40000000) (disch := omega) only [go_sem, Nat.reduceEqDiff, Nat.reduceAdd, Nat.reduceMul, Nat.reduceSub, Int.reduceToNat, Int.reduceAdd, Int.reduceSub, Int.reduceMul, Int.reduceNeg] | refine vIf_t ?_ | refine vIf_f ?_)); all_goals (try simp); all_goals (try omega)); done))
            · have d7 : decide (z < 0) = false := decide_eq_false h7
              (repeat (first | simp (maxSteps := 40000000) (disch := omega) only [go_sem, Nat.reduceEqDiff, Nat.reduceAdd, Nat.reduceMul, Nat.reduceSub, Int.reduceToNat, Int.reduceAdd, Int.reduceSub, Int.reduceMul, Int.reduceNeg, d6, d7] | refine vIf_t ?_ | refine vIf_f ?_))
              refine jnXF () trivial ?_
              rw [← hkeep (.inl (by omega))]
              (first | (refine leF_s ?_; ((repeat (first | simp (maxSteps := 40000000) (disch := omega) only [go_sem, Nat.reduceEqDiff, Nat.reduceAdd, Nat.reduceMul, Nat.reduceSub, Int.reduceToNat, Int.reduceAdd, Int.reduceSub, Int.reduceMul, Int.reduceNeg] | refine vIf_t ?_ | refine vIf_f ?_)); all_goals (try simp); all_goals (try omega)); done) | (refine leF_p ?_; ((repeat (first | simp (maxSteps := 40000000) (disch := omega) only [go_sem, Nat.reduceEqDiff, Nat.reduceAdd, Nat.reduceMul, Nat.reduceSub, Int.reduceToNat, Int.reduceAdd, Int.reduceSub, Int.reduceMul, Int.reduceNeg] | refine vIf_t ?_ | refine vIf_f ?_)); all_goals (try simp); all_goals (try omega)); done))
          · have d6 : decide ((k : Int) < xs.length) = false := decide_eq_false h6
            (repeat (first | simp (maxSteps := 40000000) (disch := omega) only [go_sem, Nat.reduceEqDiff, Nat.reduceAdd, Nat.reduceMul, Nat.reduceSub, Int.reduceToNat, Int.reduceAdd, Int.reduceSub, Int.reduceMul, Int.reduceNeg, d6] | refine vIf_t ?_ | refine vIf_f ?_))
            refine jnXF () trivial ?_
            rw [← hkeep (.inr (by omega))]
            (first | (refine leF_s ?_; ((repeat (first | simp (maxSteps := 40000000) (disch := omega) only [go_sem, Nat.reduceEqDiff, Nat.reduceAdd, Nat.reduceMul, Nat.reduceSub, Int.reduceToNat, Int.reduceAdd, Int.reduceSub, Int.reduceMul, Int.reduceNeg] | refine vIf_t ?_ | refine vIf_f ?_)); all_goals (try simp); all_goals (try omega)); done) | (refine leF_p ?_; ((repeat (first | simp (maxSteps := 40000000) (disch := omega) only [go_sem, Nat.reduceEqDiff, Nat.reduceAdd, Nat.reduceMul, Nat.reduceSub, Int.reduceToNat, Int.reduceAdd, Int.reduceSub, Int.reduceMul, Int.reduceNeg] | refine vIf_t ?_ | refine vIf_f ?_)); all_goals (try simp); all_goals (try omega)); done))
        · intro _ _
          have main : (one = 0 ∧ hrs = zH R ∧ decide (n * hrs < us) = false ∧ decide (us < b.wd) = false ∧ 0 ≤ n * hrs ∧ n * hrs ≤ 1000) ∨ (one = 3 ∧ decide (0 ≤ zH R) = false) := by
            rcases hcase with ⟨g1, g2, g3, g4, g5, g6⟩ | ⟨g1, g2⟩
            · have m1 := Int.mul_nonneg hn1 g3
              have m2 := Int.mul_le_mul (show n ≤ 40 by omega) g4 g3 (by omega)
              exact .inl ⟨g1, g2, decide_eq_false (by omega), decide_eq_false (by omega), m1, by omega⟩
            · exact .inr ⟨g1, decide_eq_false (by omega)⟩
          rcases main with ⟨rfl, m1, m2, m3, m4, m5⟩ | ⟨rfl, m1⟩
          focus
            rw [← m1]
            (repeat (first | simp (maxSteps := 40000000) (disch := omega) only [go_sem, Nat.reduceEqDiff, Nat.reduceAdd, Nat.reduceMul, Nat.reduceSub, Int.reduceToNat, Int.reduceAdd, Int.reduceSub, Int.reduceMul, Int.reduceNeg, m2, m3] | refine vIf_t ?_ | refine vIf_f ?_))
          rotate_left
          focus (repeat (first | simp (maxSteps := 40000000) (disch := omega) only [go_sem, Nat.reduceEqDiff, Nat.reduceAdd, Nat.reduceMul, Nat.reduceSub, Int.reduceToNat, Int.reduceAdd, Int.reduceSub, Int.reduceMul, Int.reduceNeg, m1] | refine vIf_t ?_ | refine vIf_f ?_))
          all_goals
            (refine vCallX_of ?_; (repeat (first | simp (maxSteps := 40000000) (disch := omega) only [go_sem, Nat.reduceEqDiff, Nat.reduceAdd, Nat.reduceMul, Nat.reduceSub, Int.reduceToNat, Int.reduceAdd, Int.reduceSub, Int.reduceMul, Int.reduceNeg] | refine vIf_t ?_ | refine vIf_f ?_)); refine vCall_ex (d4) (by simp (disch := omega) only [go_sem, Nat.reduceAdd]) rfl ?_); rintro _ _ ⟨t, rfl, rfl, ht1, ht2⟩; (refine ⟨(by first | exact Or.inl rfl | exact Or.inr ⟨rfl, rfl⟩ | (apply Or.inr; simp only [go_sem])), ?_⟩; (repeat (first | simp (maxSteps := 40000000) (disch := omega) only [go_sem, Nat.reduceEqDiff, Nat.reduceAdd, Nat.reduceMul, Nat.reduceSub, Int.reduceToNat, Int.reduceAdd, Int.reduceSub, Int.reduceMul, Int.reduceNeg] | refine vIf_t ?_ | refine vIf_f ?_)))
            have hlv : -2000 ≤ 10 * t - 200 ∧ 10 * t - 200 ≤ 2000 := by omega
            have hl5 := leastStones_ok c b xs (10 * t - 200) hX hlv
            unfold Cv.cells Bre.cells at hl5
            (refine vCallX_of ?_; (repeat (first | simp (maxSteps := 40000000) (disch := omega) only [go_sem, Nat.reduceEqDiff, Nat.reduceAdd, Nat.reduceMul, Nat.reduceSub, Int.reduceToNat, Int.reduceAdd, Int.reduceSub, Int.reduceMul, Int.reduceNeg] | refine vIf_t ?_ | refine vIf_f ?_)); refine vCall_ex (hl5) (by simp (disch := omega) only [go_sem, Nat.reduceAdd]) rfl ?_); rintro _ _ ⟨ns, e4, hc4, rfl, rfl⟩; (refine ⟨(by first | exact Or.inl rfl | exact Or.inr ⟨rfl, rfl⟩ | (apply Or.inr; simp only [go_sem])), ?_⟩; (repeat (first | simp (maxSteps := 40000000) (disch := omega) only [go_sem, Nat.reduceEqDiff, Nat.reduceAdd, Nat.reduceMul, Nat.reduceSub, Int.reduceToNat, Int.reduceAdd, Int.reduceSub, Int.reduceMul, Int.reduceNeg] | refine vIf_t ?_ | refine vIf_f ?_)))
            rcases hc4 with ⟨rfl, n1, n2, n3, n4⟩ | rfl
            · have dry := a2Dry_ok c b xs ns (10 * t - 200) hX ⟨n1, n2⟩
              have q1 : decide (0 ≤ ns) = true := decide_eq_true n1
              have q2 : decide (ns ≤ 1000) = true := decide_eq_true n2
              rw [decide_eq_true n3] at dry
              unfold Cv.cells Bre.cells at dry
              by_cases h9 : ns = 0
              · subst h9
                (try (repeat (first | simp (maxSteps := 40000000) (disch := omega) only [go_sem, Nat.reduceEqDiff, Nat.reduceAdd, Nat.reduceMul, Nat.reduceSub, Int.reduceToNat, Int.reduceAdd, Int.reduceSub, Int.reduceMul, Int.reduceNeg] | refine vIf_t ?_ | refine vIf_f ?_)))
                (refine vCallX_of ?_; (repeat (first | simp (maxSteps := 40000000) (disch := omega) only [go_sem, Nat.reduceEqDiff, Nat.reduceAdd, Nat.reduceMul, Nat.reduceSub, Int.reduceToNat, Int.reduceAdd, Int.reduceSub, Int.reduceMul, Int.reduceNeg] | refine vIf_t ?_ | refine vIf_f ?_)); refine vCall_eq (dry) (by simp (disch := omega) only [go_sem, Nat.reduceAdd]) rfl (by first | exact Or.inl rfl | exact Or.inr ⟨rfl, rfl⟩ | (apply Or.inr; simp only [go_sem])) ?_; (repeat (first | simp (maxSteps := 40000000) (disch := omega) only [go_sem, Nat.reduceEqDiff, Nat.reduceAdd, Nat.reduceMul, Nat.reduceSub, Int.reduceToNat, Int.reduceAdd, Int.reduceSub, Int.reduceMul, Int.reduceNeg] | refine vIf_t ?_ | refine vIf_f ?_)))
                (refine retK_of ?_; (repeat (first | simp (maxSteps := 40000000) (disch := omega) only [go_sem, Nat.reduceEqDiff, Nat.reduceAdd, Nat.reduceMul, Nat.reduceSub, Int.reduceToNat, Int.reduceAdd, Int.reduceSub, Int.reduceMul, Int.reduceNeg] | refine vIf_t ?_ | refine vIf_f ?_)))
              · have dry2 := a2Dry_ok c b xs (ns - 1) (10 * t - 200) hX ⟨by omega, by omega⟩
                rw [decide_eq_false (n4 (by omega))] at dry2
                unfold Cv.cells Bre.cells at dry2
                have q3 : (ns == 0) = false := by simpa using h9
                (try (repeat (first | simp (maxSteps := 40000000) (disch := omega) only [go_sem, Nat.reduceEqDiff, Nat.reduceAdd, Nat.reduceMul, Nat.reduceSub, Int.reduceToNat, Int.reduceAdd, Int.reduceSub, Int.reduceMul, Int.reduceNeg, q1, q2, q3] | refine vIf_t ?_ | refine vIf_f ?_)))
                (refine vCallX_of ?_; (repeat (first | simp (maxSteps := 40000000) (disch := omega) only [go_sem, Nat.reduceEqDiff, Nat.reduceAdd, Nat.reduceMul, Nat.reduceSub, Int.reduceToNat, Int.reduceAdd, Int.reduceSub, Int.reduceMul, Int.reduceNeg] | refine vIf_t ?_ | refine vIf_f ?_)); refine vCall_eq (dry) (by simp (disch := omega) only [go_sem, Nat.reduceAdd]) rfl (by first | exact Or.inl rfl | exact Or.inr ⟨rfl, rfl⟩ | (apply Or.inr; simp only [go_sem])) ?_; (repeat (first | simp (maxSteps := 40000000) (disch := omega) only [go_sem, Nat.reduceEqDiff, Nat.reduceAdd, Nat.reduceMul, Nat.reduceSub, Int.reduceToNat, Int.reduceAdd, Int.reduceSub, Int.reduceMul, Int.reduceNeg] | refine vIf_t ?_ | refine vIf_f ?_)))
                (try (repeat (first | simp (maxSteps := 40000000) (disch := omega) only [go_sem, Nat.reduceEqDiff, Nat.reduceAdd, Nat.reduceMul, Nat.reduceSub, Int.reduceToNat, Int.reduceAdd, Int.reduceSub, Int.reduceMul, Int.reduceNeg, q3] | refine vIf_t ?_ | refine vIf_f ?_)))
                (refine vCallX_of ?_; (repeat (first | simp (maxSteps := 40000000) (disch := omega) only [go_sem, Nat.reduceEqDiff, Nat.reduceAdd, Nat.reduceMul, Nat.reduceSub, Int.reduceToNat, Int.reduceAdd, Int.reduceSub, Int.reduceMul, Int.reduceNeg] | refine vIf_t ?_ | refine vIf_f ?_)); refine vCall_eq (dry2) (by simp (disch := omega) only [go_sem, Nat.reduceAdd]) rfl (by first | exact Or.inl rfl | exact Or.inr ⟨rfl, rfl⟩ | (apply Or.inr; simp only [go_sem])) ?_; (repeat (first | simp (maxSteps := 40000000) (disch := omega) only [go_sem, Nat.reduceEqDiff, Nat.reduceAdd, Nat.reduceMul, Nat.reduceSub, Int.reduceToNat, Int.reduceAdd, Int.reduceSub, Int.reduceMul, Int.reduceNeg] | refine vIf_t ?_ | refine vIf_f ?_)))
                (refine retK_of ?_; (repeat (first | simp (maxSteps := 40000000) (disch := omega) only [go_sem, Nat.reduceEqDiff, Nat.reduceAdd, Nat.reduceMul, Nat.reduceSub, Int.reduceToNat, Int.reduceAdd, Int.reduceSub, Int.reduceMul, Int.reduceNeg] | refine vIf_t ?_ | refine vIf_f ?_)))
            · (try (repeat (first | simp (maxSteps := 40000000) (disch := omega) only [go_sem, Nat.reduceEqDiff, Nat.reduceAdd, Nat.reduceMul, Nat.reduceSub, Int.reduceToNat, Int.reduceAdd, Int.reduceSub, Int.reduceMul, Int.reduceNeg] | refine vIf_t ?_ | refine vIf_f ?_)))
              (refine retK_of ?_; (repeat (first | simp (maxSteps := 40000000) (disch := omega) only [go_sem, Nat.reduceEqDiff, Nat.reduceAdd, Nat.reduceMul, Nat.reduceSub, Int.reduceToNat, Int.reduceAdd, Int.reduceSub, Int.reduceMul, Int.reduceNeg] | refine vIf_t ?_ | refine vIf_f ?_)))
end Go.Proofs.Ythffpidjpgogdaa

/- watches: guards that are valid, shifts that are wrong: walks -/
import Derived.Test.YtfhckmlmfigfjaaGreatDoorWatP
import Derived.Test.YtfhckmlmfigfjaaGreatDoorBas
import Derived.Test.YtfhckmlmfigfjaaGreatDoorRowR
import Derived.Test.YtfhckmlmfigfjaaGreatDoorSrc2
set_option linter.unusedVariables false
set_option linter.unusedSimpArgs false
namespace Go.Proofs.YtfhckmlmfigfjaaGreatDoor
open Go.AG Go.Lib

attribute [local go_sem] beq_self_eq_true bne_self_eq_false Bool.not_true Bool.not_false
theorem allSh_snoc (q : Sh → Bool) (xs : List Sh) (k : Nat) (h : k < xs.length) (he : (xs.take k).all q = true) (hq : q (gSh xs k) = true) : (xs.take (k + 1)).all q = true := by
  rw [gSh_take_succ xs k h, List.all_append, he]; simp [hq]
theorem allSh_no (q : Sh → Bool) (xs : List Sh) (k : Nat) (h : k < xs.length) (hq : q (gSh xs k) = false) : xs.all q = false := by
  rw [List.all_eq_false]
  exact ⟨gSh xs k, gSh_mem xs k h, by simp [hq]⟩
theorem tx_all (s : ByteArray) : tx s.data.toList = s := by simp [tx]
theorem isNmB_ok (s : ByteArray) (h : s.size ≤ 100000) : ACalls Tryz.prog 187 [St s] [] (fun r o => r = B (nB s) ∧ o = []) := by
  have := isNameX_ok s.data.toList (by simpa using h)
  rw [tx_all] at this
  exact this
theorem isNmBS_ok (s : ByteArray) (h : s.size ≤ 100000) : ACalls Tryz.prog 188 [St s] [] (fun r o => r = B (nB s) ∧ o = []) := by
  have := isNameS_ok s.data.toList (by simpa using h)
  rw [tx_all] at this
  exact this
theorem isGuard_ok (g : Gd) (h : g.name.size ≤ 100000) : ACalls Tryz.prog 105 [.agg g.cells] [] (fun r o => r = B (gdB g) ∧ o = []) := by
  refine ACalls.of_vc Tryz.func105 rfl (by decide) 23 rfl [.tmp 2] rfl (by simp) ?_
  have h1 := isNmB_ok g.name h
  unfold gdB Gd.cells
  cases hn : nB g.name with
  | false =>
    rw [hn] at h1
    (repeat (first | simp (maxSteps := 2000000) (disch := omega) only [go_sem, ↓reduceIte] | with_reducible refine vIf_t ?_ | with_reducible refine vIf_f ?_))
    (refine vCallX_of ?_; (repeat (first | simp (maxSteps := 2000000) (disch := omega) only [go_sem, ↓reduceIte] | with_reducible refine vIf_t ?_ | with_reducible refine vIf_f ?_)); refine vCall_eq (h1) (by simp (disch := omega) only [go_sem]) rfl (by first | exact Or.inl rfl | exact Or.inr ⟨rfl, rfl⟩ | (apply Or.inr; simp only [go_sem])) ?_; (repeat (first | simp (maxSteps := 2000000) (disch := omega) only [go_sem, ↓reduceIte] | with_reducible refine vIf_t ?_ | with_reducible refine vIf_f ?_)))
    (refine retK_of ?_; (repeat (first | simp (maxSteps := 2000000) (disch := omega) only [go_sem, ↓reduceIte] | with_reducible refine vIf_t ?_ | with_reducible refine vIf_f ?_)))
    try simp
  | true =>
    rw [hn] at h1
    (repeat (first | simp (maxSteps := 2000000) (disch := omega) only [go_sem, ↓reduceIte] | with_reducible refine vIf_t ?_ | with_reducible refine vIf_f ?_))
    (refine vCallX_of ?_; (repeat (first | simp (maxSteps := 2000000) (disch := omega) only [go_sem, ↓reduceIte] | with_reducible refine vIf_t ?_ | with_reducible refine vIf_f ?_)); refine vCall_eq (h1) (by simp (disch := omega) only [go_sem]) rfl (by first | exact Or.inl rfl | exact Or.inr ⟨rfl, rfl⟩ | (apply Or.inr; simp only [go_sem])) ?_; (repeat (first | simp (maxSteps := 2000000) (disch := omega) only [go_sem, ↓reduceIte] | with_reducible refine vIf_t ?_ | with_reducible refine vIf_f ?_)))
    by_cases c1 : 0 ≤ g.fr
    case neg =>
      have d1 : decide (0 ≤ g.fr) = false := decide_eq_false c1
      (try (repeat (first | simp (maxSteps := 2000000) (disch := omega) only [go_sem, ↓reduceIte, d1] | with_reducible refine vIf_t ?_ | with_reducible refine vIf_f ?_)))
      (refine retK_of ?_; (repeat (first | simp (maxSteps := 2000000) (disch := omega) only [go_sem, ↓reduceIte] | with_reducible refine vIf_t ?_ | with_reducible refine vIf_f ?_)))
      try (rw [decide_eq_false (by omega)]; try rfl)
    have d1 : decide (0 ≤ g.fr) = true := decide_eq_true c1
    (try (repeat (first | simp (maxSteps := 2000000) (disch := omega) only [go_sem, ↓reduceIte, d1] | with_reducible refine vIf_t ?_ | with_reducible refine vIf_f ?_)))
    by_cases c2 : g.fr < g.tw
    case neg =>
      have d2 : decide (g.fr < g.tw) = false := decide_eq_false c2
      (try (repeat (first | simp (maxSteps := 2000000) (disch := omega) only [go_sem, ↓reduceIte, d2] | with_reducible refine vIf_t ?_ | with_reducible refine vIf_f ?_)))
      (refine retK_of ?_; (repeat (first | simp (maxSteps := 2000000) (disch := omega) only [go_sem, ↓reduceIte] | with_reducible refine vIf_t ?_ | with_reducible refine vIf_f ?_)))
      try (rw [decide_eq_false (by omega)]; try rfl)
    have d2 : decide (g.fr < g.tw) = true := decide_eq_true c2
    (try (repeat (first | simp (maxSteps := 2000000) (disch := omega) only [go_sem, ↓reduceIte, d2] | with_reducible refine vIf_t ?_ | with_reducible refine vIf_f ?_)))
    (refine retK_of ?_; (repeat (first | simp (maxSteps := 2000000) (disch := omega) only [go_sem, ↓reduceIte] | with_reducible refine vIf_t ?_ | with_reducible refine vIf_f ?_)))
    by_cases c3 : g.tw ≤ 300000
    · rw [decide_eq_true c3, decide_eq_true (by omega)]; try rfl
    · rw [decide_eq_false c3, decide_eq_false (by omega)]; try rfl
theorem one17_ok (ds : List Gd) (i : Nat) (hi : i < ds.length) (h : (gGd ds i).name.size ≤ 100000) : ACalls Tryz.prog 110 [.ip (cGd ds) (i * 3)] [] (fun r o => r = B (gdB (gGd ds i)) ∧ o = []) := by
  refine ACalls.of_vc Tryz.func110 rfl (by decide) 27 rfl [.tmp 2] rfl (by simp) ?_
  have h1 := isNmBS_ok (gGd ds i).name h
  have h2 := inS_ok (gGd ds i).fr 0 299999
  have h3 := inS_ok (gGd ds i).tw ((gGd ds i).fr + 1) 300000
  unfold gdB
  cases hn : nB (gGd ds i).name with
  | false =>
    rw [hn] at h1
    (repeat (first | simp (maxSteps := 2000000) (disch := omega) only [go_sem, ↓reduceIte] | with_reducible refine vIf_t ?_ | with_reducible refine vIf_f ?_))
    (refine vDraw_sch 22 [(0, false), (1, false), (2, false), (3, true), (4, false), (5, false), (6, false), (7, false), (8, false), (9, false), (10, false), (11, false), (12, false), (13, false), (14, false), (15, false), (16, false), (17, false), (18, false), (19, false), (20, false), (21, false)] mixed (by kernel_rfl) ?_; simp only [List.cons_append, List.nil_append, List.map_cons, List.map_nil, nthO_zero, nthO_succ, List.drop_succ_cons, List.drop_zero, List.drop_nil]; (repeat (first | simp (maxSteps := 2000000) (disch := omega) only [go_sem, ↓reduceIte] | with_reducible refine vIf_t ?_ | with_reducible refine vIf_f ?_)))
    (refine vsCallX_of ?_; (try (repeat (first | simp (maxSteps := 2000000) (disch := omega) only [go_sem, ↓reduceIte] | with_reducible refine vIf_t ?_ | with_reducible refine vIf_f ?_))); refine vCall_eq (h1) (by simp (disch := omega) only [go_sem]) rfl (by first | exact Or.inl rfl | exact Or.inr ⟨rfl, rfl⟩ | (apply Or.inr; simp only [go_sem])) ?_; (try (repeat (first | simp (maxSteps := 2000000) (disch := omega) only [go_sem, ↓reduceIte] | with_reducible refine vIf_t ?_ | with_reducible refine vIf_f ?_))))
    (try (repeat (first | simp (maxSteps := 2000000) (disch := omega) only [go_sem, ↓reduceIte] | with_reducible refine vIf_t ?_ | with_reducible refine vIf_f ?_)))
    (refine retK_of ?_; (repeat (first | simp (maxSteps := 2000000) (disch := omega) only [go_sem, ↓reduceIte] | with_reducible refine vIf_t ?_ | with_reducible refine vIf_f ?_)))
    try simp
  | true =>
    rw [hn] at h1
    (repeat (first | simp (maxSteps := 2000000) (disch := omega) only [go_sem, ↓reduceIte] | with_reducible refine vIf_t ?_ | with_reducible refine vIf_f ?_))
    (refine vDraw_sch 22 [(0, false), (1, false), (2, false), (3, true), (4, false), (5, false), (6, false), (7, false), (8, false), (9, false), (10, false), (11, false), (12, false), (13, false), (14, false), (15, false), (16, false), (17, false), (18, false), (19, false), (20, false), (21, false)] mixed (by kernel_rfl) ?_; simp only [List.cons_append, List.nil_append, List.map_cons, List.map_nil, nthO_zero, nthO_succ, List.drop_succ_cons, List.drop_zero, List.drop_nil]; (repeat (first | simp (maxSteps := 2000000) (disch := omega) only [go_sem, ↓reduceIte] | with_reducible refine vIf_t ?_ | with_reducible refine vIf_f ?_)))
    (refine vsCallX_of ?_; (try (repeat (first | simp (maxSteps := 2000000) (disch := omega) only [go_sem, ↓reduceIte] | with_reducible refine vIf_t ?_ | with_reducible refine vIf_f ?_))); refine vCall_eq (h1) (by simp (disch := omega) only [go_sem]) rfl (by first | exact Or.inl rfl | exact Or.inr ⟨rfl, rfl⟩ | (apply Or.inr; simp only [go_sem])) ?_; (try (repeat (first | simp (maxSteps := 2000000) (disch := omega) only [go_sem, ↓reduceIte] | with_reducible refine vIf_t ?_ | with_reducible refine vIf_f ?_))))
    (try (repeat (first | simp (maxSteps := 2000000) (disch := omega) only [go_sem, ↓reduceIte] | with_reducible refine vIf_t ?_ | with_reducible refine vIf_f ?_)))
    by_cases c1 : 0 ≤ (gGd ds i).fr ∧ (gGd ds i).fr ≤ 299999
    case neg =>
      rw [decide_eq_false c1] at h2
      (refine vsCallX_of ?_; (try (repeat (first | simp (maxSteps := 2000000) (disch := omega) only [go_sem, ↓reduceIte] | with_reducible refine vIf_t ?_ | with_reducible refine vIf_f ?_))); refine vCall_eq (h2) (by simp (disch := omega) only [go_sem]) rfl (by first | exact Or.inl rfl | exact Or.inr ⟨rfl, rfl⟩ | (apply Or.inr; simp only [go_sem])) ?_; (try (repeat (first | simp (maxSteps := 2000000) (disch := omega) only [go_sem, ↓reduceIte] | with_reducible refine vIf_t ?_ | with_reducible refine vIf_f ?_))))
      (try (repeat (first | simp (maxSteps := 2000000) (disch := omega) only [go_sem, ↓reduceIte] | with_reducible refine vIf_t ?_ | with_reducible refine vIf_f ?_)))
      (refine retK_of ?_; (repeat (first | simp (maxSteps := 2000000) (disch := omega) only [go_sem, ↓reduceIte] | with_reducible refine vIf_t ?_ | with_reducible refine vIf_f ?_)))
      try (rw [decide_eq_false (by omega)]; try rfl)
    rw [decide_eq_true c1] at h2
    (refine vsCallX_of ?_; (try (repeat (first | simp (maxSteps := 2000000) (disch := omega) only [go_sem, ↓reduceIte] | with_reducible refine vIf_t ?_ | with_reducible refine vIf_f ?_))); refine vCall_eq (h2) (by simp (disch := omega) only [go_sem]) rfl (by first | exact Or.inl rfl | exact Or.inr ⟨rfl, rfl⟩ | (apply Or.inr; simp only [go_sem])) ?_; (try (repeat (first | simp (maxSteps := 2000000) (disch := omega) only [go_sem, ↓reduceIte] | with_reducible refine vIf_t ?_ | with_reducible refine vIf_f ?_))))
    (try (repeat (first | simp (maxSteps := 2000000) (disch := omega) only [go_sem, ↓reduceIte] | with_reducible refine vIf_t ?_ | with_reducible refine vIf_f ?_)))
    (refine vCallX_of ?_; (repeat (first | simp (maxSteps := 2000000) (disch := omega) only [go_sem, ↓reduceIte] | with_reducible refine vIf_t ?_ | with_reducible refine vIf_f ?_)); refine vCall_eq (h3) (by simp (disch := omega) only [go_sem]) rfl (by first | exact Or.inl rfl | exact Or.inr ⟨rfl, rfl⟩ | (apply Or.inr; simp only [go_sem])) ?_; (repeat (first | simp (maxSteps := 2000000) (disch := omega) only [go_sem, ↓reduceIte] | with_reducible refine vIf_t ?_ | with_reducible refine vIf_f ?_)))
    (refine retK_of ?_; (repeat (first | simp (maxSteps := 2000000) (disch := omega) only [go_sem, ↓reduceIte] | with_reducible refine vIf_t ?_ | with_reducible refine vIf_f ?_)))
    by_cases c3 : (gGd ds i).fr + 1 ≤ (gGd ds i).tw ∧ (gGd ds i).tw ≤ 300000
    · rw [decide_eq_true c3, decide_eq_true (by omega)]; try rfl
    · rw [decide_eq_false c3, decide_eq_false (by omega)]; try rfl
def NmZ (ds : List Gd) : Prop := ∀ i, i < ds.length → (gGd ds i).name.size ≤ 100000
def nms (ds : List Gd) (k : Nat) : List ByteArray := (ds.take k).map Gd.name
theorem nms_succ (ds : List Gd) (k : Nat) (h : k < ds.length) : nms ds (k + 1) = nms ds k ++ [(gGd ds k).name] := by
  unfold nms
  rw [gGd_take_succ ds k h, List.map_append]; rfl
theorem nms_len (ds : List Gd) (k : Nat) (h : k ≤ ds.length) : (nms ds k).length = k := by simp [nms]; omega
theorem nms_mem (ds : List Gd) (k : Nat) (h : k ≤ ds.length) (s : ByteArray) : s ∈ nms ds k ↔ ∃ j, j < k ∧ (gGd ds j).name = s := by
  unfold nms
  simp only [List.mem_map, List.mem_take_iff_getElem]
  constructor
  · rintro ⟨g, ⟨j, hj, rfl⟩, rfl⟩
    exact ⟨j, by omega, by rw [gGd_lt ds j (by omega)]⟩
  · rintro ⟨j, hj, rfl⟩
    exact ⟨gGd ds j, ⟨j, by omega, by rw [gGd_lt ds j (by omega)]⟩, rfl⟩
set_option maxHeartbeats 4000000 in
theorem validG_ok (ds : List Gd) (hZ : NmZ ds) (hl : ds.length ≤ 10000000) : ACalls Tryz.prog 30 [.sl ds.length (cGd ds)] [] (fun r o => r = B (okG ds) ∧ o = []) := by
  refine ACalls.of_vc Tryz.func30 rfl (by decide) 31 rfl [.tmp 2] rfl (by simp) ?_
  (repeat (first | simp (maxSteps := 2000000) (disch := omega) only [go_sem, ↓reduceIte] | with_reducible refine vIf_t ?_ | with_reducible refine vIf_f ?_))
  refine vcLoop_invF (fun k : Nat => k ≤ ds.length ∧ ∀ i, i < k → okGi ds i) (fun k => ⟨31, 0, [(9, I k), (3, .ref 0 0 (nms ds k).length), (7, .sl ds.length (cGd ds)), (0, .sl ds.length (cGd ds)), (8, I ds.length)], [some ⟨1, strs (nms ds k)⟩]⟩) (fun k => ds.length - k) 0 ⟨by omega, fun i hi => by omega⟩ (by rw [show nms ds 0 = [] from rfl]; (first | (refine leF_s ?_; ((repeat (first | simp (maxSteps := 2000000) (disch := omega) only [go_sem, ↓reduceIte] | with_reducible refine vIf_t ?_ | with_reducible refine vIf_f ?_)); all_goals (try simp); all_goals (try omega)); done) | (refine leF_p ?_; ((repeat (first | simp (maxSteps := 2000000) (disch := omega) only [go_sem, ↓reduceIte] | with_reducible refine vIf_t ?_ | with_reducible refine vIf_f ?_)); all_goals (try simp); all_goals (try omega)); done))) ?_
  rintro k ⟨hk, he⟩
  have hnl := nms_len ds k hk
  have hns := nms_succ ds k
  have hnm := nms_mem ds k hk
  generalize hN : nms ds k = N at *
  (repeat (first | simp (maxSteps := 2000000) (disch := omega) only [go_sem, ↓reduceIte] | with_reducible refine vIf_t ?_ | with_reducible refine vIf_f ?_))
  refine vIf_dec (fun h => ?_) (fun h => ?_)
  · have hkl : k < ds.length := by omega
    have hns := hns hkl
    have h1 := isGuard_ok (gGd ds k) (hZ k hkl)
    have h2 := hasName_ok N (gGd ds k).name (by omega)
    unfold Gd.cells at h1
    (repeat (first | simp (maxSteps := 2000000) (disch := omega) only [go_sem, ↓reduceIte] | with_reducible refine vIf_t ?_ | with_reducible refine vIf_f ?_))
    (refine vCallX_of ?_; (repeat (first | simp (maxSteps := 2000000) (disch := omega) only [go_sem, ↓reduceIte] | with_reducible refine vIf_t ?_ | with_reducible refine vIf_f ?_)); refine vCall_eq (h1) (by simp (disch := omega) only [go_sem]) rfl (by first | exact Or.inl rfl | exact Or.inr ⟨rfl, rfl⟩ | (apply Or.inr; simp only [go_sem])) ?_; (repeat (first | simp (maxSteps := 2000000) (disch := omega) only [go_sem, ↓reduceIte] | with_reducible refine vIf_t ?_ | with_reducible refine vIf_f ?_)))
    cases hg : gdB (gGd ds k) with
    | false =>
      (try (repeat (first | simp (maxSteps := 2000000) (disch := omega) only [go_sem, ↓reduceIte, hg] | with_reducible refine vIf_t ?_ | with_reducible refine vIf_f ?_)))
      (refine retK_of ?_; (repeat (first | simp (maxSteps := 2000000) (disch := omega) only [go_sem, ↓reduceIte] | with_reducible refine vIf_t ?_ | with_reducible refine vIf_f ?_)))
      rw [okG_no hkl (fun q => by rw [q.1] at hg; cases hg)]
    | true =>
      (try (repeat (first | simp (maxSteps := 2000000) (disch := omega) only [go_sem, ↓reduceIte, hg] | with_reducible refine vIf_t ?_ | with_reducible refine vIf_f ?_)))
      (refine vCallX_of ?_; (repeat (first | simp (maxSteps := 2000000) (disch := omega) only [go_sem, ↓reduceIte] | with_reducible refine vIf_t ?_ | with_reducible refine vIf_f ?_)); refine vCall_eq (h2) (by simp (disch := omega) only [go_sem]) rfl (by first | exact Or.inl rfl | exact Or.inr ⟨rfl, rfl⟩ | (apply Or.inr; simp only [go_sem])) ?_; (repeat (first | simp (maxSteps := 2000000) (disch := omega) only [go_sem, ↓reduceIte] | with_reducible refine vIf_t ?_ | with_reducible refine vIf_f ?_)))
      cases hin : inS (gGd ds k).name N with
      | true =>
        (try (repeat (first | simp (maxSteps := 2000000) (disch := omega) only [go_sem, ↓reduceIte, hg, hin] | with_reducible refine vIf_t ?_ | with_reducible refine vIf_f ?_)))
        (refine retK_of ?_; (repeat (first | simp (maxSteps := 2000000) (disch := omega) only [go_sem, ↓reduceIte] | with_reducible refine vIf_t ?_ | with_reducible refine vIf_f ?_)))
        rw [okG_no hkl (fun q => by
          obtain ⟨j, hj, e⟩ := (hnm _).1 (inS_iff.1 hin)
          exact q.2 j hj e)]
      | false =>
        (try (repeat (first | simp (maxSteps := 2000000) (disch := omega) only [go_sem, ↓reduceIte, hg, hin] | with_reducible refine vIf_t ?_ | with_reducible refine vIf_f ?_)))
        refine againF (k + 1) ⟨by omega, fun i hi => ?_⟩ (by omega) ?_
        · by_cases e : i = k
          · subst e
            refine ⟨hg, fun j hj e => ?_⟩
            rw [inS_iff.2 ((hnm _).2 ⟨j, hj, e⟩)] at hin
            cases hin
          · exact he i (by omega)
        · rw [hns]
          (first | (refine leF_s ?_; ((repeat (first | simp (maxSteps := 2000000) (disch := omega) only [go_sem, ↓reduceIte] | with_reducible refine vIf_t ?_ | with_reducible refine vIf_f ?_)); all_goals (try simp); all_goals (try omega)); done) | (refine leF_p ?_; ((repeat (first | simp (maxSteps := 2000000) (disch := omega) only [go_sem, ↓reduceIte] | with_reducible refine vIf_t ?_ | with_reducible refine vIf_f ?_)); all_goals (try simp); all_goals (try omega)); done))
  · have ek : k = ds.length := by omega
    subst ek
    (repeat (first | simp (maxSteps := 2000000) (disch := omega) only [go_sem, ↓reduceIte] | with_reducible refine vIf_t ?_ | with_reducible refine vIf_f ?_))
    (refine retK_of ?_; (repeat (first | simp (maxSteps := 2000000) (disch := omega) only [go_sem, ↓reduceIte] | with_reducible refine vIf_t ?_ | with_reducible refine vIf_f ?_)))
    rw [okG_yes he]
    exact congrArg B (decide_eq_decide.2 (by omega))
set_option maxHeartbeats 4000000 in
theorem validGS_ok (ds : List Gd) (hZ : NmZ ds) (hl : ds.length ≤ 10000000) : ACalls Tryz.prog 109 [.sl ds.length (cGd ds)] [] (fun r o => r = B (okG ds) ∧ o = []) := by
  refine ACalls.of_vc Tryz.func109 rfl (by decide) 35 rfl [.tmp 2] rfl (by simp) ?_
  (repeat (first | simp (maxSteps := 2000000) (disch := omega) only [go_sem, ↓reduceIte] | with_reducible refine vIf_t ?_ | with_reducible refine vIf_f ?_))
  refine vcLoop_invF (fun k : Nat => k ≤ ds.length ∧ ∀ i, i < k → okGi ds i) (fun k => ⟨35, 0, [(3, I k), (0, .sl ds.length (cGd ds))], []⟩) (fun k => ds.length - k) 0 ⟨by omega, fun i hi => by omega⟩ (by (first | (refine leF_s ?_; ((repeat (first | simp (maxSteps := 2000000) (disch := omega) only [go_sem, ↓reduceIte] | with_reducible refine vIf_t ?_ | with_reducible refine vIf_f ?_)); all_goals (try simp); all_goals (try omega)); done) | (refine leF_p ?_; ((repeat (first | simp (maxSteps := 2000000) (disch := omega) only [go_sem, ↓reduceIte] | with_reducible refine vIf_t ?_ | with_reducible refine vIf_f ?_)); all_goals (try simp); all_goals (try omega)); done))) ?_
  rintro k ⟨hk, he⟩
  (repeat (first | simp (maxSteps := 2000000) (disch := omega) only [go_sem, ↓reduceIte] | with_reducible refine vIf_t ?_ | with_reducible refine vIf_f ?_))
  refine vIf_dec (fun h => ?_) (fun h => ?_)
  · have hkl : k < ds.length := by omega
    have h1 := one17_ok ds k hkl (hZ k hkl)
    (repeat (first | simp (maxSteps := 2000000) (disch := omega) only [go_sem, ↓reduceIte] | with_reducible refine vIf_t ?_ | with_reducible refine vIf_f ?_))
    (refine vCallX_of ?_; (repeat (first | simp (maxSteps := 2000000) (disch := omega) only [go_sem, ↓reduceIte] | with_reducible refine vIf_t ?_ | with_reducible refine vIf_f ?_)); refine vCall_eq (h1) (by simp (disch := omega) only [go_sem]) rfl (by first | exact Or.inl rfl | exact Or.inr ⟨rfl, rfl⟩ | (apply Or.inr; simp only [go_sem])) ?_; (repeat (first | simp (maxSteps := 2000000) (disch := omega) only [go_sem, ↓reduceIte] | with_reducible refine vIf_t ?_ | with_reducible refine vIf_f ?_)))
    cases hg : gdB (gGd ds k) with
    | false =>
      (try (repeat (first | simp (maxSteps := 2000000) (disch := omega) only [go_sem, ↓reduceIte, hg] | with_reducible refine vIf_t ?_ | with_reducible refine vIf_f ?_)))
      (refine retK_of ?_; (repeat (first | simp (maxSteps := 2000000) (disch := omega) only [go_sem, ↓reduceIte] | with_reducible refine vIf_t ?_ | with_reducible refine vIf_f ?_)))
      rw [okG_no hkl (fun q => by rw [q.1] at hg; cases hg)]
    | true =>
      (try (repeat (first | simp (maxSteps := 2000000) (disch := omega) only [go_sem, ↓reduceIte, hg] | with_reducible refine vIf_t ?_ | with_reducible refine vIf_f ?_)))
      refine vcLoop_invF (fun j : Nat => j ≤ k ∧ ∀ i, i < j → (gGd ds i).name ≠ (gGd ds k).name) (fun j => ⟨35, 0, [(4, I j), (3, I k), (0, .sl ds.length (cGd ds))], []⟩) (fun j => k - j) 0 ⟨by omega, fun i hi => by omega⟩ (by (first | (refine leF_s ?_; ((repeat (first | simp (maxSteps := 2000000) (disch := omega) only [go_sem, ↓reduceIte] | with_reducible refine vIf_t ?_ | with_reducible refine vIf_f ?_)); all_goals (try simp); all_goals (try omega)); done) | (refine leF_p ?_; ((repeat (first | simp (maxSteps := 2000000) (disch := omega) only [go_sem, ↓reduceIte] | with_reducible refine vIf_t ?_ | with_reducible refine vIf_f ?_)); all_goals (try simp); all_goals (try omega)); done))) ?_
      rintro j ⟨hj, hjn⟩
      (repeat (first | simp (maxSteps := 2000000) (disch := omega) only [go_sem, ↓reduceIte] | with_reducible refine vIf_t ?_ | with_reducible refine vIf_f ?_))
      refine vIf_dec (fun h5 => ?_) (fun h5 => ?_)
      · have hjl : j < ds.length := by omega
        (repeat (first | simp (maxSteps := 2000000) (disch := omega) only [go_sem, ↓reduceIte] | with_reducible refine vIf_t ?_ | with_reducible refine vIf_f ?_))
        (refine vDraw_sch 10 [(0, false), (1, false), (2, false), (3, false), (5, false), (6, false), (7, false), (8, false), (4, false), (9, true)] mixed (by kernel_rfl) ?_; simp only [List.cons_append, List.nil_append, List.map_cons, List.map_nil, nthO_zero, nthO_succ, List.drop_succ_cons, List.drop_zero, List.drop_nil]; (repeat (first | simp (maxSteps := 2000000) (disch := omega) only [go_sem, ↓reduceIte] | with_reducible refine vIf_t ?_ | with_reducible refine vIf_f ?_)))
        (try (repeat (first | simp (maxSteps := 2000000) (disch := omega) only [go_sem, ↓reduceIte, ba_eqN] | with_reducible refine vIf_t ?_ | with_reducible refine vIf_f ?_)))
        by_cases z1 : (gGd ds j).name = (gGd ds k).name
        · have x1 : decide ((gGd ds j).name = (gGd ds k).name) = true := decide_eq_true z1
          (try (repeat (first | simp (maxSteps := 2000000) (disch := omega) only [go_sem, ↓reduceIte, ba_eqN, x1] | with_reducible refine vIf_t ?_ | with_reducible refine vIf_f ?_)))
          (refine retK_of ?_; (repeat (first | simp (maxSteps := 2000000) (disch := omega) only [go_sem, ↓reduceIte] | with_reducible refine vIf_t ?_ | with_reducible refine vIf_f ?_)))
          rw [okG_no hkl (fun q => q.2 j (by omega) z1)]
        · have x1 : decide ((gGd ds j).name = (gGd ds k).name) = false := decide_eq_false z1
          (try (repeat (first | simp (maxSteps := 2000000) (disch := omega) only [go_sem, ↓reduceIte, ba_eqN, x1] | with_reducible refine vIf_t ?_ | with_reducible refine vIf_f ?_)))
          refine againF (j + 1) ⟨by omega, fun i hi => ?_⟩ (by omega) (by (first | (refine leF_s ?_; ((repeat (first | simp (maxSteps := 2000000) (disch := omega) only [go_sem, ↓reduceIte] | with_reducible refine vIf_t ?_ | with_reducible refine vIf_f ?_)); all_goals (try simp); all_goals (try omega)); done) | (refine leF_p ?_; ((repeat (first | simp (maxSteps := 2000000) (disch := omega) only [go_sem, ↓reduceIte] | with_reducible refine vIf_t ?_ | with_reducible refine vIf_f ?_)); all_goals (try simp); all_goals (try omega)); done)))
          by_cases e : i = j
          · subst e; exact z1
          · exact hjn i (by omega)
      · have ej : j = k := by omega
        subst ej
        (repeat (first | simp (maxSteps := 2000000) (disch := omega) only [go_sem, ↓reduceIte] | with_reducible refine vIf_t ?_ | with_reducible refine vIf_f ?_))
        refine againF (j + 1) ⟨by omega, fun i hi => ?_⟩ (by omega) (by (first | (refine leF_s ?_; ((repeat (first | simp (maxSteps := 2000000) (disch := omega) only [go_sem, ↓reduceIte] | with_reducible refine vIf_t ?_ | with_reducible refine vIf_f ?_)); all_goals (try simp); all_goals (try omega)); done) | (refine leF_p ?_; ((repeat (first | simp (maxSteps := 2000000) (disch := omega) only [go_sem, ↓reduceIte] | with_reducible refine vIf_t ?_ | with_reducible refine vIf_f ?_)); all_goals (try simp); all_goals (try omega)); done)))
        by_cases e : i = j
        · subst e; exact ⟨hg, hjn⟩
        · exact he i (by omega)
  · have ek : k = ds.length := by omega
    subst ek
    (repeat (first | simp (maxSteps := 2000000) (disch := omega) only [go_sem, ↓reduceIte] | with_reducible refine vIf_t ?_ | with_reducible refine vIf_f ?_))
    (refine retK_of ?_; (repeat (first | simp (maxSteps := 2000000) (disch := omega) only [go_sem, ↓reduceIte] | with_reducible refine vIf_t ?_ | with_reducible refine vIf_f ?_)))
    rw [okG_yes he]
    exact congrArg B (decide_eq_decide.2 (by omega))
/-! shifts -/
end Go.Proofs.YtfhckmlmfigfjaaGreatDoor

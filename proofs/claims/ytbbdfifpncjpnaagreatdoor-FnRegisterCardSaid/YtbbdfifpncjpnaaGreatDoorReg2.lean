/- the register: the program's walks -/
import Derived.Test.YtbbdfifpncjpnaaGreatDoorReg1
set_option linter.unusedVariables false
set_option linter.unusedSimpArgs false
namespace Go.Proofs.YtbbdfifpncjpnaaGreatDoor
open Go.AG Go.Lib

attribute [local go_sem] beq_self_eq_true bne_self_eq_false Bool.not_true Bool.not_false
def oP (ds : List Pc) : Option Ob := some ⟨4, cPc ds⟩
attribute [local go_sem] oP
theorem cloneP_ok (ds : List Pc) (hl : ds.length ≤ 1000000) : ACalls Tryz.prog 64 [.sl ds.length (cPc ds)] [] (fun r o => r = .ref 0 0 ds.length ∧ o = [oP ds]) := by
  refine ACalls.of_vc Tryz.func64 rfl (by decide) 6 rfl [.tmp 2] rfl (by simp) ?_
  (repeat (first | simp (maxSteps := 2000000) (disch := omega) only [go_sem, ↓reduceIte] | with_reducible refine vIf_t ?_ | with_reducible refine vIf_f ?_))
  (refine retK_of ?_; (repeat (first | simp (maxSteps := 2000000) (disch := omega) only [go_sem, ↓reduceIte] | with_reducible refine vIf_t ?_ | with_reducible refine vIf_f ?_)))
/-- where a number belongs, whether it is there -/
theorem parcelN_ok (ds : List Pc) (id : Int) (hok : okP ds = true) : ACalls Tryz.prog 62 [.sl ds.length (cPc ds), I id] []
    (fun r o => r = .tup [I (paN ds id), B (decide (0 ≤ pwI ds id))] ∧ o = []) := by
  have h60 := (okP_all hok).1
  refine (parcelAt_ok ds id (by omega)).mono ?_
  rintro r o ⟨a, h1, h2, h3, rfl, rfl⟩
  have P : PosP ds id a := ⟨h1, h2, h3⟩
  have ea := P.uniq (paN_pos hok id)
  obtain ⟨q1, q2⟩ := pw_pos hok P
  refine ⟨?_, rfl⟩
  rw [← ea]
  congr 3
  by_cases h : a < ds.length ∧ (gPc ds a).id = id
  · rw [decide_eq_true h, decide_eq_true (by rw [q1 h]; omega)]
  · rw [decide_eq_false h, decide_eq_false (by rw [q2 h]; omega)]
theorem pa_pw {ds : List Pc} (hok : okP ds = true) {id : Int} (h : 0 ≤ pwI ds id) : paN ds id < ds.length ∧ pwI ds id = paN ds id := by
  rcases pw_cases hok id with ⟨k, hk, e, eid⟩ | ⟨e, _⟩
  · have := (pos_at hok hk).uniq (by rw [eid]; exact paN_pos hok id)
    rw [← this]
    exact ⟨hk, e⟩
  · omega
theorem insP_eq (ds : List Pc) (a : Nat) (p : Pc) : (ds.take a ++ [p]) ++ ds.drop a = insP ds a p := by simp [insP]
set_option maxRecDepth 20000 in
theorem withP_ok (ds : List Pc) (p : Pc) (hok : okP ds = true) : ACalls Tryz.prog 65 [.sl ds.length (cPc ds), .agg p.cells] []
    (fun r o => r = .ref 0 0 (ds.length + 1) ∧ o = [oP (insP ds (paN ds p.id) p)]) := by
  refine ACalls.of_vc Tryz.func65 rfl (by decide) 25 rfl [.tmp 4] rfl (by simp) ?_
  have h60 := (okP_all hok).1
  have hp := parcelN_ok ds p.id hok
  have hle := (paN_pos hok p.id).le
  generalize paN ds p.id = a at *
  have hc := cloneP_ok (ds.take a) (by simp; omega)
  have hta : (ds.take a).length = a := by simp; omega
  rw [hta] at hc
  have en : ((ds.length : Int) - (a : Int)).toNat = ds.length - a := by omega
  have htk : List.take (ds.length - a) (ds.drop a) = ds.drop a := List.take_of_length_le (by simp)
  unfold Pc.cells
  (repeat (first | simp (maxSteps := 2000000) (disch := omega) only [go_sem, ↓reduceIte] | with_reducible refine vIf_t ?_ | with_reducible refine vIf_f ?_))
  (refine vCallX_of ?_; (repeat (first | simp (maxSteps := 2000000) (disch := omega) only [go_sem, ↓reduceIte] | with_reducible refine vIf_t ?_ | with_reducible refine vIf_f ?_)); refine vCall_eq (hp) (by simp (disch := omega) only [go_sem]) rfl (by first | exact Or.inl rfl | exact Or.inr ⟨rfl, rfl⟩ | (apply Or.inr; simp only [go_sem])) ?_; (repeat (first | simp (maxSteps := 2000000) (disch := omega) only [go_sem, ↓reduceIte] | with_reducible refine vIf_t ?_ | with_reducible refine vIf_f ?_)))
  (refine vDraw_tr 10 (.rd 0 (.rd 1 (.rd 2 (.rd 4 (.rd 7 (.rd 8 (.rd 9 (.alt 3 (.alt 5 (.alt 6 (.done) (.stop)) (.stop)) (.alt 5 (.alt 3 (.alt 6 (.done) (.stop)) (.stop)) (.stop)))))))))) (fun _ : Unit => True) (fun _ => ⟨25, 0, [(20, .ref 0 0 (a + 1)), (23, .sl (ds.length - a) (cPc (ds.drop a)))], [oP (ds.take a ++ [p])]⟩) mixed (by kernel_rfl) ?_ ?_)
  · (repeat (first | simp (maxSteps := 2000000) (disch := omega) only [go_sem, ↓reduceIte, en, htk] | with_reducible refine vIf_t ?_ | with_reducible refine vIf_f ?_))
    repeat' (first | refine And.intro ?_ ?_ | (refine vsCallX_of ?_; (try (repeat (first | simp (maxSteps := 2000000) (disch := omega) only [go_sem, ↓reduceIte] | with_reducible refine vIf_t ?_ | with_reducible refine vIf_f ?_))); refine vCall_eq (hc) (by simp (disch := omega) only [go_sem]) rfl (by first | exact Or.inl rfl | exact Or.inr ⟨rfl, rfl⟩ | (apply Or.inr; simp only [go_sem])) ?_; (try (repeat (first | simp (maxSteps := 2000000) (disch := omega) only [go_sem, ↓reduceIte] | with_reducible refine vIf_t ?_ | with_reducible refine vIf_f ?_)))))
    all_goals (refine ⟨(), leF_p ?_⟩; (repeat (first | simp (maxSteps := 2000000) (disch := omega) only [go_sem, ↓reduceIte, en, htk] | with_reducible refine vIf_t ?_ | with_reducible refine vIf_f ?_)))
  · intro _ _
    simp only [List.drop_succ_cons, List.drop_zero, List.drop_nil]
    (repeat (first | simp (maxSteps := 2000000) (disch := omega) only [go_sem, ↓reduceIte] | with_reducible refine vIf_t ?_ | with_reducible refine vIf_f ?_))
    (refine retK_of ?_; (repeat (first | simp (maxSteps := 2000000) (disch := omega) only [go_sem, ↓reduceIte] | with_reducible refine vIf_t ?_ | with_reducible refine vIf_f ?_)))
    rw [List.take_of_length_le (by simp; omega), insP_eq, show a + 1 + (ds.length - a) = ds.length + 1 by omega]
    exact ⟨rfl, rfl⟩
theorem addP_ok (ds : List Pc) (p : Pc) (hl : ds.length ≤ 1000000) : ACalls Tryz.prog 16 [.sl ds.length (cPc ds), .agg p.cells] [] (fun r o => r = .tup [.sl (adL ds p).length (cPc (adL ds p)), I (adC ds p)] ∧ o = []) := by
  refine ACalls.of_vc Tryz.func16 rfl (by decide) 38 rfl [.tmp 4, .tmp 5] rfl (by simp) ?_
  have hc := pcCode0_ok ds (by omega)
  have hi := isPc_ok p
  cases hok : okP ds with
  | false =>
    rw [hok] at hc
    simp only [Bool.false_eq_true, if_false] at hc
    have ec : adC ds p = 1 := by simp [adC, hok]
    rw [adL, if_neg (by omega), ec]
    unfold Pc.cells
    (repeat (first | simp (maxSteps := 2000000) (disch := omega) only [go_sem, ↓reduceIte] | with_reducible refine vIf_t ?_ | with_reducible refine vIf_f ?_))
    (refine vCallX_of ?_; (repeat (first | simp (maxSteps := 2000000) (disch := omega) only [go_sem, ↓reduceIte] | with_reducible refine vIf_t ?_ | with_reducible refine vIf_f ?_)); refine vCall_eq (hc) (by simp (disch := omega) only [go_sem]) rfl (by first | exact Or.inl rfl | exact Or.inr ⟨rfl, rfl⟩ | (apply Or.inr; simp only [go_sem])) ?_; (repeat (first | simp (maxSteps := 2000000) (disch := omega) only [go_sem, ↓reduceIte] | with_reducible refine vIf_t ?_ | with_reducible refine vIf_f ?_)))
    refine retK_frz (.step 1 ⟨4, cPc []⟩ rfl (by (repeat (first | simp (maxSteps := 2000000) (disch := omega) only [go_sem, ↓reduceIte] | with_reducible refine vIf_t ?_ | with_reducible refine vIf_f ?_))) (.refl _)) ?_
    (repeat (first | simp (maxSteps := 2000000) (disch := omega) only [go_sem, ↓reduceIte] | with_reducible refine vIf_t ?_ | with_reducible refine vIf_f ?_))
    try rfl
  | true =>
    rw [hok] at hc
    simp only [if_true] at hc
    have h60 := (okP_all hok).1
    have hp := parcelN_ok ds p.id hok
    have hw := withP_ok ds p hok
    unfold Pc.cells at hi hw ⊢
    (repeat (first | simp (maxSteps := 2000000) (disch := omega) only [go_sem, ↓reduceIte] | with_reducible refine vIf_t ?_ | with_reducible refine vIf_f ?_))
    (refine vCallX_of ?_; (repeat (first | simp (maxSteps := 2000000) (disch := omega) only [go_sem, ↓reduceIte] | with_reducible refine vIf_t ?_ | with_reducible refine vIf_f ?_)); refine vCall_eq (hc) (by simp (disch := omega) only [go_sem]) rfl (by first | exact Or.inl rfl | exact Or.inr ⟨rfl, rfl⟩ | (apply Or.inr; simp only [go_sem])) ?_; (repeat (first | simp (maxSteps := 2000000) (disch := omega) only [go_sem, ↓reduceIte] | with_reducible refine vIf_t ?_ | with_reducible refine vIf_f ?_)))
    (refine vCallX_of ?_; (repeat (first | simp (maxSteps := 2000000) (disch := omega) only [go_sem, ↓reduceIte] | with_reducible refine vIf_t ?_ | with_reducible refine vIf_f ?_)); refine vCall_eq (hp) (by simp (disch := omega) only [go_sem]) rfl (by first | exact Or.inl rfl | exact Or.inr ⟨rfl, rfl⟩ | (apply Or.inr; simp only [go_sem])) ?_; (repeat (first | simp (maxSteps := 2000000) (disch := omega) only [go_sem, ↓reduceIte] | with_reducible refine vIf_t ?_ | with_reducible refine vIf_f ?_)))
    cases hb : pcB p with
    | false =>
      rw [hb] at hi
      have ec : adC ds p = 2 := by simp [adC, hok, hb]
      rw [adL, if_neg (by omega), ec]
      (refine vCallX_of ?_; (repeat (first | simp (maxSteps := 2000000) (disch := omega) only [go_sem, ↓reduceIte] | with_reducible refine vIf_t ?_ | with_reducible refine vIf_f ?_)); refine vCall_eq (hi) (by simp (disch := omega) only [go_sem]) rfl (by first | exact Or.inl rfl | exact Or.inr ⟨rfl, rfl⟩ | (apply Or.inr; simp only [go_sem])) ?_; (repeat (first | simp (maxSteps := 2000000) (disch := omega) only [go_sem, ↓reduceIte] | with_reducible refine vIf_t ?_ | with_reducible refine vIf_f ?_)))
      refine retK_frz (.step 1 ⟨4, cPc []⟩ rfl (by (repeat (first | simp (maxSteps := 2000000) (disch := omega) only [go_sem, ↓reduceIte] | with_reducible refine vIf_t ?_ | with_reducible refine vIf_f ?_))) (.refl _)) ?_
      (repeat (first | simp (maxSteps := 2000000) (disch := omega) only [go_sem, ↓reduceIte] | with_reducible refine vIf_t ?_ | with_reducible refine vIf_f ?_))
      try rfl
    | true =>
      rw [hb] at hi
      (refine vCallX_of ?_; (repeat (first | simp (maxSteps := 2000000) (disch := omega) only [go_sem, ↓reduceIte] | with_reducible refine vIf_t ?_ | with_reducible refine vIf_f ?_)); refine vCall_eq (hi) (by simp (disch := omega) only [go_sem]) rfl (by first | exact Or.inl rfl | exact Or.inr ⟨rfl, rfl⟩ | (apply Or.inr; simp only [go_sem])) ?_; (repeat (first | simp (maxSteps := 2000000) (disch := omega) only [go_sem, ↓reduceIte] | with_reducible refine vIf_t ?_ | with_reducible refine vIf_f ?_)))
      by_cases h0 : 0 ≤ pwI ds p.id
      · have d0 : decide (0 ≤ pwI ds p.id) = true := decide_eq_true h0
        have ec : adC ds p = 4 := by rw [adC, if_pos hok, if_pos hb, if_pos h0]
        rw [adL, if_neg (by omega), ec]
        (try (repeat (first | simp (maxSteps := 2000000) (disch := omega) only [go_sem, ↓reduceIte, d0] | with_reducible refine vIf_t ?_ | with_reducible refine vIf_f ?_)))
        refine retK_frz (.step 1 ⟨4, cPc []⟩ rfl (by (repeat (first | simp (maxSteps := 2000000) (disch := omega) only [go_sem, ↓reduceIte] | with_reducible refine vIf_t ?_ | with_reducible refine vIf_f ?_))) (.refl _)) ?_
        (repeat (first | simp (maxSteps := 2000000) (disch := omega) only [go_sem, ↓reduceIte] | with_reducible refine vIf_t ?_ | with_reducible refine vIf_f ?_))
        try rfl
      · have d0 : decide (0 ≤ pwI ds p.id) = false := decide_eq_false h0
        (try (repeat (first | simp (maxSteps := 2000000) (disch := omega) only [go_sem, ↓reduceIte, d0] | with_reducible refine vIf_t ?_ | with_reducible refine vIf_f ?_)))
        by_cases h6 : ds.length = 60
        · have d1 : ((ds.length : Int) == 60) = true := by rw [beq_iff_eq]; omega
          have ec : adC ds p = 5 := by rw [adC, if_pos hok, if_pos hb, if_neg h0, if_pos h6]
          rw [adL, if_neg (by omega), ec]
          (try (repeat (first | simp (maxSteps := 2000000) (disch := omega) only [go_sem, ↓reduceIte, d1] | with_reducible refine vIf_t ?_ | with_reducible refine vIf_f ?_)))
          refine retK_frz (.step 1 ⟨4, cPc []⟩ rfl (by (repeat (first | simp (maxSteps := 2000000) (disch := omega) only [go_sem, ↓reduceIte] | with_reducible refine vIf_t ?_ | with_reducible refine vIf_f ?_))) (.refl _)) ?_
          (repeat (first | simp (maxSteps := 2000000) (disch := omega) only [go_sem, ↓reduceIte] | with_reducible refine vIf_t ?_ | with_reducible refine vIf_f ?_))
          try rfl
        · have d1 : ((ds.length : Int) == 60) = false := by rw [beq_eq_false_iff_ne]; omega
          have ec : adC ds p = 0 := by rw [adC, if_pos hok, if_pos hb, if_neg h0, if_neg h6]
          have hil := insP_len ds (paN ds p.id) p (paN_pos hok p.id).le
          rw [adL, if_pos ec, ec]
          (try (repeat (first | simp (maxSteps := 2000000) (disch := omega) only [go_sem, ↓reduceIte, d1] | with_reducible refine vIf_t ?_ | with_reducible refine vIf_f ?_)))
          (refine vCallX_of ?_; (repeat (first | simp (maxSteps := 2000000) (disch := omega) only [go_sem, ↓reduceIte] | with_reducible refine vIf_t ?_ | with_reducible refine vIf_f ?_)); refine vCall_eq (hw) (by simp (disch := omega) only [go_sem]) rfl (by first | exact Or.inl rfl | exact Or.inr ⟨rfl, rfl⟩ | (apply Or.inr; simp only [go_sem])) ?_; (repeat (first | simp (maxSteps := 2000000) (disch := omega) only [go_sem, ↓reduceIte] | with_reducible refine vIf_t ?_ | with_reducible refine vIf_f ?_)))
          refine retK_frz (.step 1 ⟨4, cPc (insP ds (paN ds p.id) p)⟩ rfl (by (repeat (first | simp (maxSteps := 2000000) (disch := omega) only [go_sem, ↓reduceIte] | with_reducible refine vIf_t ?_ | with_reducible refine vIf_f ?_))) (.refl _)) ?_
          (repeat (first | simp (maxSteps := 2000000) (disch := omega) only [go_sem, ↓reduceIte] | with_reducible refine vIf_t ?_ | with_reducible refine vIf_f ?_))
          rw [hil]
          try rfl
theorem pcCode1_ok (ds : List Pc) (id : Int) (hl : ds.length ≤ 1000000) : ACalls Tryz.prog 61 [.sl ds.length (cPc ds), .sl 1 (ints [id])] []
    (fun r o => r = I (if okP ds = true then if 1 ≤ id ∧ id ≤ 9999 then 0 else 2 else 1) ∧ o = []) := by
  have h := pcCode_ok ds [id] (by omega) (by simp)
  simp only [List.all_cons, List.all_nil, Bool.and_true, decide_eq_true_eq] at h
  exact h
theorem pcCode2_ok (ds : List Pc) (id other : Int) (hl : ds.length ≤ 1000000) : ACalls Tryz.prog 61 [.sl ds.length (cPc ds), .sl 2 (ints [id, other])] []
    (fun r o => r = I (if okP ds = true then if (1 ≤ id ∧ id ≤ 9999) ∧ (1 ≤ other ∧ other ≤ 9999) then 0 else 2 else 1) ∧ o = []) := by
  have h := pcCode_ok ds [id, other] (by omega) (by simp)
  simp only [List.all_cons, List.all_nil, Bool.and_true, Bool.and_eq_true, decide_eq_true_eq] at h
  exact h
set_option maxRecDepth 20000 in
theorem sellP_ok (ds : List Pc) (id o : Int) (hl : ds.length ≤ 1000000) : ACalls Tryz.prog 13 [.sl ds.length (cPc ds), I id, I o] [] (fun r ob => r = .tup [.sl (seL ds id o).length (cPc (seL ds id o)), I (seC ds id o)] ∧ ob = []) := by
  refine ACalls.of_vc Tryz.func13 rfl (by decide) 52 rfl [.tmp 6, .tmp 7] rfl (by simp) ?_
  have hc := pcCode1_ok ds id hl
  have hi := isOwner_ok o
  cases hok : okP ds with
  | false =>
    rw [hok] at hc
    simp only [Bool.false_eq_true, if_false] at hc
    have ec : seC ds id o = 1 := by simp [seC, hok]
    rw [seL, if_neg (by omega), ec]
    (repeat (first | simp (maxSteps := 2000000) (disch := omega) only [go_sem, ↓reduceIte] | with_reducible refine vIf_t ?_ | with_reducible refine vIf_f ?_))
    (refine vCallX_of ?_; (repeat (first | simp (maxSteps := 2000000) (disch := omega) only [go_sem, ↓reduceIte] | with_reducible refine vIf_t ?_ | with_reducible refine vIf_f ?_)); refine vCall_eq (hc) (by simp (disch := omega) only [go_sem]) rfl (by first | exact Or.inl rfl | exact Or.inr ⟨rfl, rfl⟩ | (apply Or.inr; simp only [go_sem])) ?_; (repeat (first | simp (maxSteps := 2000000) (disch := omega) only [go_sem, ↓reduceIte] | with_reducible refine vIf_t ?_ | with_reducible refine vIf_f ?_)))
    refine retK_frz (.step 1 ⟨4, cPc []⟩ rfl (by (repeat (first | simp (maxSteps := 2000000) (disch := omega) only [go_sem, ↓reduceIte] | with_reducible refine vIf_t ?_ | with_reducible refine vIf_f ?_))) (.refl _)) ?_
    (repeat (first | simp (maxSteps := 2000000) (disch := omega) only [go_sem, ↓reduceIte] | with_reducible refine vIf_t ?_ | with_reducible refine vIf_f ?_))
    try rfl
  | true =>
    rw [hok] at hc
    simp only [if_true] at hc
    have h60 := (okP_all hok).1
    by_cases hd : 1 ≤ id ∧ id ≤ 9999
    · rw [if_pos hd] at hc
      have hp := parcelN_ok ds id hok
      (repeat (first | simp (maxSteps := 2000000) (disch := omega) only [go_sem, ↓reduceIte] | with_reducible refine vIf_t ?_ | with_reducible refine vIf_f ?_))
      (refine vCallX_of ?_; (repeat (first | simp (maxSteps := 2000000) (disch := omega) only [go_sem, ↓reduceIte] | with_reducible refine vIf_t ?_ | with_reducible refine vIf_f ?_)); refine vCall_eq (hc) (by simp (disch := omega) only [go_sem]) rfl (by first | exact Or.inl rfl | exact Or.inr ⟨rfl, rfl⟩ | (apply Or.inr; simp only [go_sem])) ?_; (repeat (first | simp (maxSteps := 2000000) (disch := omega) only [go_sem, ↓reduceIte] | with_reducible refine vIf_t ?_ | with_reducible refine vIf_f ?_)))
      (refine vCallX_of ?_; (repeat (first | simp (maxSteps := 2000000) (disch := omega) only [go_sem, ↓reduceIte] | with_reducible refine vIf_t ?_ | with_reducible refine vIf_f ?_)); refine vCall_eq (hp) (by simp (disch := omega) only [go_sem]) rfl (by first | exact Or.inl rfl | exact Or.inr ⟨rfl, rfl⟩ | (apply Or.inr; simp only [go_sem])) ?_; (repeat (first | simp (maxSteps := 2000000) (disch := omega) only [go_sem, ↓reduceIte] | with_reducible refine vIf_t ?_ | with_reducible refine vIf_f ?_)))
      by_cases ho : 0 ≤ o ∧ o ≤ 39
      · rw [decide_eq_true ho] at hi
        (refine vCallX_of ?_; (repeat (first | simp (maxSteps := 2000000) (disch := omega) only [go_sem, ↓reduceIte] | with_reducible refine vIf_t ?_ | with_reducible refine vIf_f ?_)); refine vCall_eq (hi) (by simp (disch := omega) only [go_sem]) rfl (by first | exact Or.inl rfl | exact Or.inr ⟨rfl, rfl⟩ | (apply Or.inr; simp only [go_sem])) ?_; (repeat (first | simp (maxSteps := 2000000) (disch := omega) only [go_sem, ↓reduceIte] | with_reducible refine vIf_t ?_ | with_reducible refine vIf_f ?_)))
        by_cases h0 : 0 ≤ pwI ds id
        · have d0 : decide (0 ≤ pwI ds id) = true := decide_eq_true h0
          obtain ⟨q1, q2⟩ := pa_pw hok h0
          have hcl := cloneP_ok ds hl
          generalize paN ds id = k at *
          have e1 : (pwI ds id).toNat = k := by rw [q2]; rfl
          (try (repeat (first | simp (maxSteps := 2000000) (disch := omega) only [go_sem, ↓reduceIte, d0] | with_reducible refine vIf_t ?_ | with_reducible refine vIf_f ?_)))
          by_cases hs : (gPc ds k).owner = o
          · have d1 : ((gPc ds k).owner == o) = true := by rw [beq_iff_eq]; exact hs
            have ec : seC ds id o = 6 := by rw [seC, if_pos hok, if_pos ⟨hd, ho⟩, if_neg (by omega), e1, if_pos hs]
            rw [seL, if_neg (by omega), ec]
            (try (repeat (first | simp (maxSteps := 2000000) (disch := omega) only [go_sem, ↓reduceIte, d1] | with_reducible refine vIf_t ?_ | with_reducible refine vIf_f ?_)))
            refine retK_frz (.step 1 ⟨4, cPc []⟩ rfl (by (repeat (first | simp (maxSteps := 2000000) (disch := omega) only [go_sem, ↓reduceIte] | with_reducible refine vIf_t ?_ | with_reducible refine vIf_f ?_))) (.refl _)) ?_
            (repeat (first | simp (maxSteps := 2000000) (disch := omega) only [go_sem, ↓reduceIte] | with_reducible refine vIf_t ?_ | with_reducible refine vIf_f ?_))
            try rfl
          · have d1 : ((gPc ds k).owner == o) = false := by rw [beq_eq_false_iff_ne]; exact hs
            have ec : seC ds id o = 0 := by rw [seC, if_pos hok, if_pos ⟨hd, ho⟩, if_neg (by omega), e1, if_neg hs]
            rw [seL, if_pos ec, ec, e1]
            unfold seV
            (try (repeat (first | simp (maxSteps := 2000000) (disch := omega) only [go_sem, ↓reduceIte, d1] | with_reducible refine vIf_t ?_ | with_reducible refine vIf_f ?_)))
            (refine vCallX_of ?_; (repeat (first | simp (maxSteps := 2000000) (disch := omega) only [go_sem, ↓reduceIte] | with_reducible refine vIf_t ?_ | with_reducible refine vIf_f ?_)); refine vCall_eq (hcl) (by simp (disch := omega) only [go_sem]) rfl (by first | exact Or.inl rfl | exact Or.inr ⟨rfl, rfl⟩ | (apply Or.inr; simp only [go_sem])) ?_; (repeat (first | simp (maxSteps := 2000000) (disch := omega) only [go_sem, ↓reduceIte] | with_reducible refine vIf_t ?_ | with_reducible refine vIf_f ?_)))
            (repeat (first | simp (maxSteps := 2000000) (disch := omega) only [go_sem, ↓reduceIte] | with_reducible refine vIf_t ?_ | with_reducible refine vIf_f ?_))
            refine retK_frz (.step 1 _ rfl (by (repeat (first | simp (maxSteps := 2000000) (disch := omega) only [go_sem, ↓reduceIte] | with_reducible refine vIf_t ?_ | with_reducible refine vIf_f ?_))) (.refl _)) ?_
            (repeat (first | simp (maxSteps := 2000000) (disch := omega) only [go_sem, ↓reduceIte] | with_reducible refine vIf_t ?_ | with_reducible refine vIf_f ?_))
            simp [List.take_of_length_le]
        · have d0 : decide (0 ≤ pwI ds id) = false := decide_eq_false h0
          have ec : seC ds id o = 3 := by rw [seC, if_pos hok, if_pos ⟨hd, ho⟩, if_pos (by omega)]
          rw [seL, if_neg (by omega), ec]
          (try (repeat (first | simp (maxSteps := 2000000) (disch := omega) only [go_sem, ↓reduceIte, d0] | with_reducible refine vIf_t ?_ | with_reducible refine vIf_f ?_)))
          refine retK_frz (.step 1 ⟨4, cPc []⟩ rfl (by (repeat (first | simp (maxSteps := 2000000) (disch := omega) only [go_sem, ↓reduceIte] | with_reducible refine vIf_t ?_ | with_reducible refine vIf_f ?_))) (.refl _)) ?_
          (repeat (first | simp (maxSteps := 2000000) (disch := omega) only [go_sem, ↓reduceIte] | with_reducible refine vIf_t ?_ | with_reducible refine vIf_f ?_))
          try rfl
      · rw [decide_eq_false ho] at hi
        have ec : seC ds id o = 2 := by rw [seC, if_pos hok, if_neg (fun g => ho g.2)]
        rw [seL, if_neg (by omega), ec]
        (refine vCallX_of ?_; (repeat (first | simp (maxSteps := 2000000) (disch := omega) only [go_sem, ↓reduceIte] | with_reducible refine vIf_t ?_ | with_reducible refine vIf_f ?_)); refine vCall_eq (hi) (by simp (disch := omega) only [go_sem]) rfl (by first | exact Or.inl rfl | exact Or.inr ⟨rfl, rfl⟩ | (apply Or.inr; simp only [go_sem])) ?_; (repeat (first | simp (maxSteps := 2000000) (disch := omega) only [go_sem, ↓reduceIte] | with_reducible refine vIf_t ?_ | with_reducible refine vIf_f ?_)))
        refine retK_frz (.step 1 ⟨4, cPc []⟩ rfl (by (repeat (first | simp (maxSteps := 2000000) (disch := omega) only [go_sem, ↓reduceIte] | with_reducible refine vIf_t ?_ | with_reducible refine vIf_f ?_))) (.refl _)) ?_
        (repeat (first | simp (maxSteps := 2000000) (disch := omega) only [go_sem, ↓reduceIte] | with_reducible refine vIf_t ?_ | with_reducible refine vIf_f ?_))
        try rfl
    · rw [if_neg hd] at hc
      have ec : seC ds id o = 2 := by rw [seC, if_pos hok, if_neg (fun g => hd g.1)]
      rw [seL, if_neg (by omega), ec]
      (repeat (first | simp (maxSteps := 2000000) (disch := omega) only [go_sem, ↓reduceIte] | with_reducible refine vIf_t ?_ | with_reducible refine vIf_f ?_))
      (refine vCallX_of ?_; (repeat (first | simp (maxSteps := 2000000) (disch := omega) only [go_sem, ↓reduceIte] | with_reducible refine vIf_t ?_ | with_reducible refine vIf_f ?_)); refine vCall_eq (hc) (by simp (disch := omega) only [go_sem]) rfl (by first | exact Or.inl rfl | exact Or.inr ⟨rfl, rfl⟩ | (apply Or.inr; simp only [go_sem])) ?_; (repeat (first | simp (maxSteps := 2000000) (disch := omega) only [go_sem, ↓reduceIte] | with_reducible refine vIf_t ?_ | with_reducible refine vIf_f ?_)))
      refine retK_frz (.step 1 ⟨4, cPc []⟩ rfl (by (repeat (first | simp (maxSteps := 2000000) (disch := omega) only [go_sem, ↓reduceIte] | with_reducible refine vIf_t ?_ | with_reducible refine vIf_f ?_))) (.refl _)) ?_
      (repeat (first | simp (maxSteps := 2000000) (disch := omega) only [go_sem, ↓reduceIte] | with_reducible refine vIf_t ?_ | with_reducible refine vIf_f ?_))
      try rfl
set_option maxRecDepth 20000 in
theorem splitP_ok (ds : List Pc) (id area other : Int) (hl : ds.length ≤ 1000000) : ACalls Tryz.prog 7 [.sl ds.length (cPc ds), I id, I area, I other] [] (fun r ob => r = .tup [.sl (splL ds id area other).length (cPc (splL ds id area other)), I (spC ds id area other)] ∧ ob = []) := by
  refine ACalls.of_vc Tryz.func7 rfl (by decide) 89 rfl [.tmp 8, .tmp 9] rfl (by simp) ?_
  have hc := pcCode2_ok ds id other hl
  have hi := isPcA_ok area
  cases hok : okP ds with
  | false =>
    rw [hok] at hc
    simp only [Bool.false_eq_true, if_false] at hc
    have ec : spC ds id area other = 1 := by simp [spC, hok]
    rw [splL, if_neg (by omega), ec]
    (repeat (first | simp (maxSteps := 2000000) (disch := omega) only [go_sem, ↓reduceIte] | with_reducible refine vIf_t ?_ | with_reducible refine vIf_f ?_))
    (refine vCallX_of ?_; (repeat (first | simp (maxSteps := 2000000) (disch := omega) only [go_sem, ↓reduceIte] | with_reducible refine vIf_t ?_ | with_reducible refine vIf_f ?_)); refine vCall_eq (hc) (by simp (disch := omega) only [go_sem]) rfl (by first | exact Or.inl rfl | exact Or.inr ⟨rfl, rfl⟩ | (apply Or.inr; simp only [go_sem])) ?_; (repeat (first | simp (maxSteps := 2000000) (disch := omega) only [go_sem, ↓reduceIte] | with_reducible refine vIf_t ?_ | with_reducible refine vIf_f ?_)))
    refine retK_frz (.step 1 ⟨4, cPc []⟩ rfl (by (repeat (first | simp (maxSteps := 2000000) (disch := omega) only [go_sem, ↓reduceIte] | with_reducible refine vIf_t ?_ | with_reducible refine vIf_f ?_))) (.refl _)) ?_
    (repeat (first | simp (maxSteps := 2000000) (disch := omega) only [go_sem, ↓reduceIte] | with_reducible refine vIf_t ?_ | with_reducible refine vIf_f ?_))
    try rfl
  | true =>
    rw [hok] at hc
    simp only [if_true] at hc
    have h60 := (okP_all hok).1
    by_cases hd : (1 ≤ id ∧ id ≤ 9999) ∧ (1 ≤ other ∧ other ≤ 9999)
    · rw [if_pos hd] at hc
      have hp := parcelN_ok ds id hok
      have hp2 := parcelN_ok ds other hok
      (repeat (first | simp (maxSteps := 2000000) (disch := omega) only [go_sem, ↓reduceIte] | with_reducible refine vIf_t ?_ | with_reducible refine vIf_f ?_))
      (refine vCallX_of ?_; (repeat (first | simp (maxSteps := 2000000) (disch := omega) only [go_sem, ↓reduceIte] | with_reducible refine vIf_t ?_ | with_reducible refine vIf_f ?_)); refine vCall_eq (hc) (by simp (disch := omega) only [go_sem]) rfl (by first | exact Or.inl rfl | exact Or.inr ⟨rfl, rfl⟩ | (apply Or.inr; simp only [go_sem])) ?_; (repeat (first | simp (maxSteps := 2000000) (disch := omega) only [go_sem, ↓reduceIte] | with_reducible refine vIf_t ?_ | with_reducible refine vIf_f ?_)))
      (refine vCallX_of ?_; (repeat (first | simp (maxSteps := 2000000) (disch := omega) only [go_sem, ↓reduceIte] | with_reducible refine vIf_t ?_ | with_reducible refine vIf_f ?_)); refine vCall_eq (hp) (by simp (disch := omega) only [go_sem]) rfl (by first | exact Or.inl rfl | exact Or.inr ⟨rfl, rfl⟩ | (apply Or.inr; simp only [go_sem])) ?_; (repeat (first | simp (maxSteps := 2000000) (disch := omega) only [go_sem, ↓reduceIte] | with_reducible refine vIf_t ?_ | with_reducible refine vIf_f ?_)))
      (refine vCallX_of ?_; (repeat (first | simp (maxSteps := 2000000) (disch := omega) only [go_sem, ↓reduceIte] | with_reducible refine vIf_t ?_ | with_reducible refine vIf_f ?_)); refine vCall_eq (hp2) (by simp (disch := omega) only [go_sem]) rfl (by first | exact Or.inl rfl | exact Or.inr ⟨rfl, rfl⟩ | (apply Or.inr; simp only [go_sem])) ?_; (repeat (first | simp (maxSteps := 2000000) (disch := omega) only [go_sem, ↓reduceIte] | with_reducible refine vIf_t ?_ | with_reducible refine vIf_f ?_)))
      by_cases ho : 1 ≤ area ∧ area ≤ 10000000
      · rw [decide_eq_true ho] at hi
        (refine vCallX_of ?_; (repeat (first | simp (maxSteps := 2000000) (disch := omega) only [go_sem, ↓reduceIte] | with_reducible refine vIf_t ?_ | with_reducible refine vIf_f ?_)); refine vCall_eq (hi) (by simp (disch := omega) only [go_sem]) rfl (by first | exact Or.inl rfl | exact Or.inr ⟨rfl, rfl⟩ | (apply Or.inr; simp only [go_sem])) ?_; (repeat (first | simp (maxSteps := 2000000) (disch := omega) only [go_sem, ↓reduceIte] | with_reducible refine vIf_t ?_ | with_reducible refine vIf_f ?_)))
        by_cases h0 : 0 ≤ pwI ds id
        · have d0 : decide (0 ≤ pwI ds id) = true := decide_eq_true h0
          obtain ⟨q1, q2⟩ := pa_pw hok h0
          have hcl := cloneP_ok ds hl
          generalize hkk : paN ds id = k at *
          have e1 : (pwI ds id).toNat = k := by rw [q2]; rfl
          (try (repeat (first | simp (maxSteps := 2000000) (disch := omega) only [go_sem, ↓reduceIte, d0] | with_reducible refine vIf_t ?_ | with_reducible refine vIf_f ?_)))
          by_cases h2 : 0 ≤ pwI ds other
          · have d2 : decide (0 ≤ pwI ds other) = true := decide_eq_true h2
            have ec : spC ds id area other = 4 := by rw [spC, if_pos hok, if_pos ⟨hd, ho⟩, if_neg (by omega), if_pos h2]
            rw [splL, if_neg (by omega), ec]
            (try (repeat (first | simp (maxSteps := 2000000) (disch := omega) only [go_sem, ↓reduceIte, d2] | with_reducible refine vIf_t ?_ | with_reducible refine vIf_f ?_)))
            refine retK_frz (.step 1 ⟨4, cPc []⟩ rfl (by (repeat (first | simp (maxSteps := 2000000) (disch := omega) only [go_sem, ↓reduceIte] | with_reducible refine vIf_t ?_ | with_reducible refine vIf_f ?_))) (.refl _)) ?_
            (repeat (first | simp (maxSteps := 2000000) (disch := omega) only [go_sem, ↓reduceIte] | with_reducible refine vIf_t ?_ | with_reducible refine vIf_f ?_))
            try rfl
          · have d2 : decide (0 ≤ pwI ds other) = false := decide_eq_false h2
            (try (repeat (first | simp (maxSteps := 2000000) (disch := omega) only [go_sem, ↓reduceIte, d2] | with_reducible refine vIf_t ?_ | with_reducible refine vIf_f ?_)))
            by_cases hs : (gPc ds k).area ≤ area
            · have d1 : decide ((gPc ds k).area ≤ area) = true := decide_eq_true hs
              have ec : spC ds id area other = 6 := by rw [spC, if_pos hok, if_pos ⟨hd, ho⟩, if_neg (by omega), if_neg h2, e1, if_pos hs]
              rw [splL, if_neg (by omega), ec]
              (try (repeat (first | simp (maxSteps := 2000000) (disch := omega) only [go_sem, ↓reduceIte, d1] | with_reducible refine vIf_t ?_ | with_reducible refine vIf_f ?_)))
              refine retK_frz (.step 1 ⟨4, cPc []⟩ rfl (by (repeat (first | simp (maxSteps := 2000000) (disch := omega) only [go_sem, ↓reduceIte] | with_reducible refine vIf_t ?_ | with_reducible refine vIf_f ?_))) (.refl _)) ?_
              (repeat (first | simp (maxSteps := 2000000) (disch := omega) only [go_sem, ↓reduceIte] | with_reducible refine vIf_t ?_ | with_reducible refine vIf_f ?_))
              try rfl
            · have d1 : decide ((gPc ds k).area ≤ area) = false := decide_eq_false hs
              (try (repeat (first | simp (maxSteps := 2000000) (disch := omega) only [go_sem, ↓reduceIte, d1] | with_reducible refine vIf_t ?_ | with_reducible refine vIf_f ?_)))
              by_cases h6 : ds.length = 60
              · have d3 : ((ds.length : Int) == 60) = true := by rw [beq_iff_eq]; omega
                have ec : spC ds id area other = 5 := by rw [spC, if_pos hok, if_pos ⟨hd, ho⟩, if_neg (by omega), if_neg h2, e1, if_neg hs, if_pos h6]
                rw [splL, if_neg (by omega), ec]
                (try (repeat (first | simp (maxSteps := 2000000) (disch := omega) only [go_sem, ↓reduceIte, d3] | with_reducible refine vIf_t ?_ | with_reducible refine vIf_f ?_)))
                refine retK_frz (.step 1 ⟨4, cPc []⟩ rfl (by (repeat (first | simp (maxSteps := 2000000) (disch := omega) only [go_sem, ↓reduceIte] | with_reducible refine vIf_t ?_ | with_reducible refine vIf_f ?_))) (.refl _)) ?_
                (repeat (first | simp (maxSteps := 2000000) (disch := omega) only [go_sem, ↓reduceIte] | with_reducible refine vIf_t ?_ | with_reducible refine vIf_f ?_))
                try rfl
              · have d3 : ((ds.length : Int) == 60) = false := by rw [beq_eq_false_iff_ne]; omega
                have ec : spC ds id area other = 0 := by rw [spC, if_pos hok, if_pos ⟨hd, ho⟩, if_neg (by omega), if_neg h2, e1, if_neg hs, if_neg h6]
                have hpk := (pcB_iff _).1 (okP_pc hok _ (gPc_mem ds k q1))
                have okv : okP (spV ds k area) = true := set_ok hok q1 rfl ((pcB_iff _).2 ⟨hpk.1, hpk.2.1, by simp only; omega, hpk.2.2.2⟩)
                have hw := withP_ok (spV ds k area) ⟨other, (gPc ds k).owner, area, (gPc ds k).cls⟩ okv
                have hsl : (spV ds k area).length = ds.length := by rw [spV, List.length_set]
                have hil := insP_len (spV ds k area) (paN (spV ds k area) other) ⟨other, (gPc ds k).owner, area, (gPc ds k).cls⟩ (paN_pos okv other).le
                rw [hsl] at hw hil
                rw [splL, if_pos ec, ec, e1, spW]
                have hse : ds.set k ⟨(gPc ds k).id, (gPc ds k).owner, (gPc ds k).area - area, (gPc ds k).cls⟩ = spV ds k area := rfl
                generalize spV ds k area = es at *
                unfold Pc.cells at hw
                simp only at hw
                (try (repeat (first | simp (maxSteps := 2000000) (disch := omega) only [go_sem, ↓reduceIte, d3] | with_reducible refine vIf_t ?_ | with_reducible refine vIf_f ?_)))
                (refine vCallX_of ?_; (repeat (first | simp (maxSteps := 2000000) (disch := omega) only [go_sem, ↓reduceIte] | with_reducible refine vIf_t ?_ | with_reducible refine vIf_f ?_)); refine vCall_eq (hcl) (by simp (disch := omega) only [go_sem]) rfl (by first | exact Or.inl rfl | exact Or.inr ⟨rfl, rfl⟩ | (apply Or.inr; simp only [go_sem])) ?_; (repeat (first | simp (maxSteps := 2000000) (disch := omega) only [go_sem, ↓reduceIte] | with_reducible refine vIf_t ?_ | with_reducible refine vIf_f ?_)))
                (repeat (first | simp (maxSteps := 2000000) (disch := omega) only [go_sem, ↓reduceIte, hse] | with_reducible refine vIf_t ?_ | with_reducible refine vIf_f ?_))
                (refine vDraw_sch 14 [(0, false), (1, false), (2, false), (3, false), (4, false), (5, false), (7, false), (8, false), (9, false), (10, false), (11, false), (6, false), (12, true), (13, false)] mixed (by kernel_rfl) ?_; simp only [List.cons_append, List.nil_append, List.map_cons, List.map_nil, nthO_zero, nthO_succ, List.drop_succ_cons, List.drop_zero, List.drop_nil]; (repeat (first | simp (maxSteps := 2000000) (disch := omega) only [go_sem, ↓reduceIte] | with_reducible refine vIf_t ?_ | with_reducible refine vIf_f ?_)))
                (try (repeat (first | simp (maxSteps := 2000000) (disch := omega) only [go_sem, ↓reduceIte, hse] | with_reducible refine vIf_t ?_ | with_reducible refine vIf_f ?_)))
                (refine vCallX_of ?_; (repeat (first | simp (maxSteps := 2000000) (disch := omega) only [go_sem, ↓reduceIte] | with_reducible refine vIf_t ?_ | with_reducible refine vIf_f ?_)); refine vCall_eq (hw) (by simp (disch := omega) only [go_sem]) rfl (by first | exact Or.inl rfl | exact Or.inr ⟨rfl, rfl⟩ | (apply Or.inr; simp only [go_sem])) ?_; (repeat (first | simp (maxSteps := 2000000) (disch := omega) only [go_sem, ↓reduceIte] | with_reducible refine vIf_t ?_ | with_reducible refine vIf_f ?_)))
                rw [← hil]
                refine retK_frz (.step 2 ⟨4, cPc (insP es (paN es other) ⟨other, (gPc ds k).owner, area, (gPc ds k).cls⟩)⟩ rfl (by (repeat (first | simp (maxSteps := 2000000) (disch := omega) only [go_sem, ↓reduceIte] | with_reducible refine vIf_t ?_ | with_reducible refine vIf_f ?_))) (.refl _)) ?_
                (repeat (first | simp (maxSteps := 2000000) (disch := omega) only [go_sem, ↓reduceIte] | with_reducible refine vIf_t ?_ | with_reducible refine vIf_f ?_))
                try rfl
        · have d0 : decide (0 ≤ pwI ds id) = false := decide_eq_false h0
          have ec : spC ds id area other = 3 := by rw [spC, if_pos hok, if_pos ⟨hd, ho⟩, if_pos (by omega)]
          rw [splL, if_neg (by omega), ec]
          (try (repeat (first | simp (maxSteps := 2000000) (disch := omega) only [go_sem, ↓reduceIte, d0] | with_reducible refine vIf_t ?_ | with_reducible refine vIf_f ?_)))
          refine retK_frz (.step 1 ⟨4, cPc []⟩ rfl (by (repeat (first | simp (maxSteps := 2000000) (disch := omega) only [go_sem, ↓reduceIte] | with_reducible refine vIf_t ?_ | with_reducible refine vIf_f ?_))) (.refl _)) ?_
          (repeat (first | simp (maxSteps := 2000000) (disch := omega) only [go_sem, ↓reduceIte] | with_reducible refine vIf_t ?_ | with_reducible refine vIf_f ?_))
          try rfl
      · rw [decide_eq_false ho] at hi
        have ec : spC ds id area other = 2 := by rw [spC, if_pos hok, if_neg (fun g => ho g.2)]
        rw [splL, if_neg (by omega), ec]
        (refine vCallX_of ?_; (repeat (first | simp (maxSteps := 2000000) (disch := omega) only [go_sem, ↓reduceIte] | with_reducible refine vIf_t ?_ | with_reducible refine vIf_f ?_)); refine vCall_eq (hi) (by simp (disch := omega) only [go_sem]) rfl (by first | exact Or.inl rfl | exact Or.inr ⟨rfl, rfl⟩ | (apply Or.inr; simp only [go_sem])) ?_; (repeat (first | simp (maxSteps := 2000000) (disch := omega) only [go_sem, ↓reduceIte] | with_reducible refine vIf_t ?_ | with_reducible refine vIf_f ?_)))
        refine retK_frz (.step 1 ⟨4, cPc []⟩ rfl (by (repeat (first | simp (maxSteps := 2000000) (disch := omega) only [go_sem, ↓reduceIte] | with_reducible refine vIf_t ?_ | with_reducible refine vIf_f ?_))) (.refl _)) ?_
        (repeat (first | simp (maxSteps := 2000000) (disch := omega) only [go_sem, ↓reduceIte] | with_reducible refine vIf_t ?_ | with_reducible refine vIf_f ?_))
        try rfl
    · rw [if_neg hd] at hc
      have ec : spC ds id area other = 2 := by rw [spC, if_pos hok, if_neg (fun g => hd g.1)]
      rw [splL, if_neg (by omega), ec]
      (repeat (first | simp (maxSteps := 2000000) (disch := omega) only [go_sem, ↓reduceIte] | with_reducible refine vIf_t ?_ | with_reducible refine vIf_f ?_))
      (refine vCallX_of ?_; (repeat (first | simp (maxSteps := 2000000) (disch := omega) only [go_sem, ↓reduceIte] | with_reducible refine vIf_t ?_ | with_reducible refine vIf_f ?_)); refine vCall_eq (hc) (by simp (disch := omega) only [go_sem]) rfl (by first | exact Or.inl rfl | exact Or.inr ⟨rfl, rfl⟩ | (apply Or.inr; simp only [go_sem])) ?_; (repeat (first | simp (maxSteps := 2000000) (disch := omega) only [go_sem, ↓reduceIte] | with_reducible refine vIf_t ?_ | with_reducible refine vIf_f ?_)))
      refine retK_frz (.step 1 ⟨4, cPc []⟩ rfl (by (repeat (first | simp (maxSteps := 2000000) (disch := omega) only [go_sem, ↓reduceIte] | with_reducible refine vIf_t ?_ | with_reducible refine vIf_f ?_))) (.refl _)) ?_
      (repeat (first | simp (maxSteps := 2000000) (disch := omega) only [go_sem, ↓reduceIte] | with_reducible refine vIf_t ?_ | with_reducible refine vIf_f ?_))
      try rfl
theorem joV_eq (ds : List Pc) (i k : Nat) : (ds.set i ⟨(gPc ds i).id, (gPc ds i).owner, (gPc ds i).area + (gPc ds k).area, (gPc ds i).cls⟩).take k ++ (ds.set i ⟨(gPc ds i).id, (gPc ds i).owner, (gPc ds i).area + (gPc ds k).area, (gPc ds i).cls⟩).drop (k + 1) = joV ds i k := by
  rw [joV, List.eraseIdx_eq_take_drop_succ]
set_option maxRecDepth 20000 in
set_option maxHeartbeats 1000000 in
theorem joinP_ok (ds : List Pc) (id other : Int) (hl : ds.length ≤ 1000000) : ACalls Tryz.prog 10 [.sl ds.length (cPc ds), I id, I other] [] (fun r ob => r = .tup [.sl (joL ds id other).length (cPc (joL ds id other)), I (joC ds id other)] ∧ ob = []) := by
  refine ACalls.of_vc Tryz.func10 rfl (by decide) 111 rfl [.tmp 6, .tmp 7] rfl (by simp) ?_
  have hc := pcCode2_ok ds id other hl
  cases hok : okP ds with
  | false =>
    rw [hok] at hc
    simp only [Bool.false_eq_true, if_false] at hc
    have ec : joC ds id other = 1 := by simp [joC, hok]
    rw [joL, if_neg (by omega), ec]
    (repeat (first | simp (maxSteps := 2000000) (disch := omega) only [go_sem, ↓reduceIte] | with_reducible refine vIf_t ?_ | with_reducible refine vIf_f ?_))
    (refine vCallX_of ?_; (repeat (first | simp (maxSteps := 2000000) (disch := omega) only [go_sem, ↓reduceIte] | with_reducible refine vIf_t ?_ | with_reducible refine vIf_f ?_)); refine vCall_eq (hc) (by simp (disch := omega) only [go_sem]) rfl (by first | exact Or.inl rfl | exact Or.inr ⟨rfl, rfl⟩ | (apply Or.inr; simp only [go_sem])) ?_; (repeat (first | simp (maxSteps := 2000000) (disch := omega) only [go_sem, ↓reduceIte] | with_reducible refine vIf_t ?_ | with_reducible refine vIf_f ?_)))
    refine retK_frz (.step 1 ⟨4, cPc []⟩ rfl (by (repeat (first | simp (maxSteps := 2000000) (disch := omega) only [go_sem, ↓reduceIte] | with_reducible refine vIf_t ?_ | with_reducible refine vIf_f ?_))) (.refl _)) ?_
    (repeat (first | simp (maxSteps := 2000000) (disch := omega) only [go_sem, ↓reduceIte] | with_reducible refine vIf_t ?_ | with_reducible refine vIf_f ?_))
    try rfl
  | true =>
    rw [hok] at hc
    simp only [if_true] at hc
    have h60 := (okP_all hok).1
    by_cases hd : (1 ≤ id ∧ id ≤ 9999) ∧ (1 ≤ other ∧ other ≤ 9999)
    · rw [if_pos hd] at hc
      have hp := parcelN_ok ds id hok
      have hp2 := parcelN_ok ds other hok
      (repeat (first | simp (maxSteps := 2000000) (disch := omega) only [go_sem, ↓reduceIte] | with_reducible refine vIf_t ?_ | with_reducible refine vIf_f ?_))
      (refine vCallX_of ?_; (repeat (first | simp (maxSteps := 2000000) (disch := omega) only [go_sem, ↓reduceIte] | with_reducible refine vIf_t ?_ | with_reducible refine vIf_f ?_)); refine vCall_eq (hc) (by simp (disch := omega) only [go_sem]) rfl (by first | exact Or.inl rfl | exact Or.inr ⟨rfl, rfl⟩ | (apply Or.inr; simp only [go_sem])) ?_; (repeat (first | simp (maxSteps := 2000000) (disch := omega) only [go_sem, ↓reduceIte] | with_reducible refine vIf_t ?_ | with_reducible refine vIf_f ?_)))
      (refine vCallX_of ?_; (repeat (first | simp (maxSteps := 2000000) (disch := omega) only [go_sem, ↓reduceIte] | with_reducible refine vIf_t ?_ | with_reducible refine vIf_f ?_)); refine vCall_eq (hp) (by simp (disch := omega) only [go_sem]) rfl (by first | exact Or.inl rfl | exact Or.inr ⟨rfl, rfl⟩ | (apply Or.inr; simp only [go_sem])) ?_; (repeat (first | simp (maxSteps := 2000000) (disch := omega) only [go_sem, ↓reduceIte] | with_reducible refine vIf_t ?_ | with_reducible refine vIf_f ?_)))
      (refine vCallX_of ?_; (repeat (first | simp (maxSteps := 2000000) (disch := omega) only [go_sem, ↓reduceIte] | with_reducible refine vIf_t ?_ | with_reducible refine vIf_f ?_)); refine vCall_eq (hp2) (by simp (disch := omega) only [go_sem]) rfl (by first | exact Or.inl rfl | exact Or.inr ⟨rfl, rfl⟩ | (apply Or.inr; simp only [go_sem])) ?_; (repeat (first | simp (maxSteps := 2000000) (disch := omega) only [go_sem, ↓reduceIte] | with_reducible refine vIf_t ?_ | with_reducible refine vIf_f ?_)))
      by_cases h0 : 0 ≤ pwI ds id
      · have d0 : decide (0 ≤ pwI ds id) = true := decide_eq_true h0
        by_cases h2 : 0 ≤ pwI ds other
        · have d2 : decide (0 ≤ pwI ds other) = true := decide_eq_true h2
          obtain ⟨q1, q2⟩ := pa_pw hok h0
          obtain ⟨q3, q4⟩ := pa_pw hok h2
          have hcl := cloneP_ok ds hl
          generalize paN ds id = i at *
          generalize paN ds other = k at *
          have e1 : (pwI ds id).toNat = i := by rw [q2]; rfl
          have e2 : (pwI ds other).toNat = k := by rw [q4]; rfl
          have hpi := (pcB_iff _).1 (okP_pc hok _ (gPc_mem ds i q1))
          have hpk := (pcB_iff _).1 (okP_pc hok _ (gPc_mem ds k q3))
          have eC : joC ds id other = if i = k ∨ (gPc ds i).owner ≠ (gPc ds k).owner ∨ (gPc ds i).cls ≠ (gPc ds k).cls then 6 else if 10000000 < (gPc ds i).area + (gPc ds k).area then 5 else 0 := by
            rw [joC, if_pos hok, if_pos hd, if_neg (by omega), e1, e2, q2, q4]
            simp only [Int.natCast_inj]
          (try (repeat (first | simp (maxSteps := 2000000) (disch := omega) only [go_sem, ↓reduceIte, d0, d2] | with_reducible refine vIf_t ?_ | with_reducible refine vIf_f ?_)))
          (refine vDraw_sch 27 ([(0, false), (1, false), (2, false), (3, false), (4, false), (5, false), (6, false), (7, false), (8, false), (9, false), (10, false), (11, false), (12, false), (13, false), (14, false), (15, false), (16, false), (17, false), (18, false), (19, false)] ++ [(20, false), (21, false), (22, false), (23, false), (24, false), (25, false), (26, false)]) mixed (by kernel_rfl) ?_; simp only [List.cons_append, List.nil_append, List.map_cons, List.map_nil, nthO_zero, nthO_succ, List.drop_succ_cons, List.drop_zero, List.drop_nil]; (repeat (first | simp (maxSteps := 2000000) (disch := omega) only [go_sem, ↓reduceIte] | with_reducible refine vIf_t ?_ | with_reducible refine vIf_f ?_)))
          by_cases hik : i = k
          · have d3 : ((i : Int) == (k : Int)) = true := by rw [beq_iff_eq]; omega
            rw [if_pos (.inl hik)] at eC
            rw [joL, if_neg (by omega), eC]
            (try (repeat (first | simp (maxSteps := 2000000) (disch := omega) only [go_sem, ↓reduceIte, d3] | with_reducible refine vIf_t ?_ | with_reducible refine vIf_f ?_)))
            refine retK_frz (.step 1 ⟨4, cPc []⟩ rfl (by (repeat (first | simp (maxSteps := 2000000) (disch := omega) only [go_sem, ↓reduceIte] | with_reducible refine vIf_t ?_ | with_reducible refine vIf_f ?_))) (.refl _)) ?_
            (repeat (first | simp (maxSteps := 2000000) (disch := omega) only [go_sem, ↓reduceIte] | with_reducible refine vIf_t ?_ | with_reducible refine vIf_f ?_))
            try rfl
          have d3 : ((i : Int) == (k : Int)) = false := by rw [beq_eq_false_iff_ne]; omega
          by_cases ho : (gPc ds i).owner = (gPc ds k).owner
          · have d4 : ((gPc ds i).owner != (gPc ds k).owner) = false := by rw [bne_eq_false_iff_eq]; exact ho
            by_cases hcl2 : (gPc ds i).cls = (gPc ds k).cls
            · have d5 : ((gPc ds i).cls != (gPc ds k).cls) = false := by rw [bne_eq_false_iff_eq]; exact hcl2
              rw [if_neg (by rintro (g | g | g); exact hik g; exact g ho; exact g hcl2)] at eC
              (try (repeat (first | simp (maxSteps := 2000000) (disch := omega) only [go_sem, ↓reduceIte, d3, d4, d5] | with_reducible refine vIf_t ?_ | with_reducible refine vIf_f ?_)))
              (refine vDraw_sch 10 [(0, false), (1, false), (2, false), (3, false), (5, false), (6, false), (7, false), (8, false), (4, false), (9, true)] mixed (by kernel_rfl) ?_; simp only [List.cons_append, List.nil_append, List.map_cons, List.map_nil, nthO_zero, nthO_succ, List.drop_succ_cons, List.drop_zero, List.drop_nil]; (repeat (first | simp (maxSteps := 2000000) (disch := omega) only [go_sem, ↓reduceIte] | with_reducible refine vIf_t ?_ | with_reducible refine vIf_f ?_)))
              by_cases hs : 10000000 < (gPc ds i).area + (gPc ds k).area
              · have d6 : decide (10000000 < (gPc ds i).area + (gPc ds k).area) = true := decide_eq_true hs
                rw [if_pos hs] at eC
                rw [joL, if_neg (by omega), eC]
                (try (repeat (first | simp (maxSteps := 2000000) (disch := omega) only [go_sem, ↓reduceIte, d6] | with_reducible refine vIf_t ?_ | with_reducible refine vIf_f ?_)))
                refine retK_frz (.step 1 ⟨4, cPc []⟩ rfl (by (repeat (first | simp (maxSteps := 2000000) (disch := omega) only [go_sem, ↓reduceIte] | with_reducible refine vIf_t ?_ | with_reducible refine vIf_f ?_))) (.refl _)) ?_
                (repeat (first | simp (maxSteps := 2000000) (disch := omega) only [go_sem, ↓reduceIte] | with_reducible refine vIf_t ?_ | with_reducible refine vIf_f ?_))
                try rfl
              · have d6 : decide (10000000 < (gPc ds i).area + (gPc ds k).area) = false := decide_eq_false hs
                rw [if_neg hs] at eC
                have hjl := joV_len ds i k q3
                have hje := joV_eq ds i k
                rw [joL, if_pos eC, eC, e1, e2]
                have hxl : (ds.set i ⟨(gPc ds i).id, (gPc ds i).owner, (gPc ds i).area + (gPc ds k).area, (gPc ds i).cls⟩).length = ds.length := by simp
                (try (repeat (first | simp (maxSteps := 2000000) (disch := omega) only [go_sem, ↓reduceIte, d6] | with_reducible refine vIf_t ?_ | with_reducible refine vIf_f ?_)))
                (refine vCallX_of ?_; (repeat (first | simp (maxSteps := 2000000) (disch := omega) only [go_sem, ↓reduceIte] | with_reducible refine vIf_t ?_ | with_reducible refine vIf_f ?_)); refine vCall_eq (hcl) (by simp (disch := omega) only [go_sem]) rfl (by first | exact Or.inl rfl | exact Or.inr ⟨rfl, rfl⟩ | (apply Or.inr; simp only [go_sem])) ?_; (repeat (first | simp (maxSteps := 2000000) (disch := omega) only [go_sem, ↓reduceIte] | with_reducible refine vIf_t ?_ | with_reducible refine vIf_f ?_)))
                (refine vDraw_sch 10 [(0, false), (1, false), (2, false), (3, false), (5, false), (6, false), (7, false), (8, false), (4, false), (9, true)] mixed (by kernel_rfl) ?_; simp only [List.cons_append, List.nil_append, List.map_cons, List.map_nil, nthO_zero, nthO_succ, List.drop_succ_cons, List.drop_zero, List.drop_nil]; (repeat (first | simp (maxSteps := 2000000) (disch := omega) only [go_sem, ↓reduceIte] | with_reducible refine vIf_t ?_ | with_reducible refine vIf_f ?_)))
                (try (repeat (first | simp (maxSteps := 2000000) (disch := omega) only [go_sem, ↓reduceIte] | with_reducible refine vIf_t ?_ | with_reducible refine vIf_f ?_)))
                generalize ds.set i ⟨(gPc ds i).id, (gPc ds i).owner, (gPc ds i).area + (gPc ds k).area, (gPc ds i).cls⟩ = xs at *
                have en1 : ((ds.length : Int) - ((k : Int) + 1)).toNat = ds.length - (k + 1) := by omega
                have en2 : ((k : Int) + 1).toNat = k + 1 := by omega
                have htk : List.take (ds.length - (k + 1)) (xs.drop (k + 1)) = xs.drop (k + 1) := List.take_of_length_le (by simp [hxl])
                have en3 : k + (ds.length - (k + 1)) = (joV ds i k).length := by omega
                (refine vDraw_sch 7 [(0, false), (1, false), (2, false), (3, false), (4, false), (5, false), (6, false)] mixed (by kernel_rfl) ?_; simp only [List.cons_append, List.nil_append, List.map_cons, List.map_nil, nthO_zero, nthO_succ, List.drop_succ_cons, List.drop_zero, List.drop_nil]; (repeat (first | simp (maxSteps := 2000000) (disch := omega) only [go_sem, ↓reduceIte] | with_reducible refine vIf_t ?_ | with_reducible refine vIf_f ?_)))
                (try (repeat (first | simp (maxSteps := 2000000) (disch := omega) only [go_sem, ↓reduceIte, en1, en2, htk, hje, en3] | with_reducible refine vIf_t ?_ | with_reducible refine vIf_f ?_)))
                refine retK_frz (.step 1 ⟨4, cPc (joV ds i k)⟩ rfl (by (repeat (first | simp (maxSteps := 2000000) (disch := omega) only [go_sem, ↓reduceIte] | with_reducible refine vIf_t ?_ | with_reducible refine vIf_f ?_))) (.refl _)) ?_
                (repeat (first | simp (maxSteps := 2000000) (disch := omega) only [go_sem, ↓reduceIte] | with_reducible refine vIf_t ?_ | with_reducible refine vIf_f ?_))
                try rfl
            · have d5 : ((gPc ds i).cls != (gPc ds k).cls) = true := by rw [bne_iff_ne]; exact hcl2
              rw [if_pos (.inr (.inr hcl2))] at eC
              rw [joL, if_neg (by omega), eC]
              (try (repeat (first | simp (maxSteps := 2000000) (disch := omega) only [go_sem, ↓reduceIte, d3, d4, d5] | with_reducible refine vIf_t ?_ | with_reducible refine vIf_f ?_)))
              refine retK_frz (.step 1 ⟨4, cPc []⟩ rfl (by (repeat (first | simp (maxSteps := 2000000) (disch := omega) only [go_sem, ↓reduceIte] | with_reducible refine vIf_t ?_ | with_reducible refine vIf_f ?_))) (.refl _)) ?_
              (repeat (first | simp (maxSteps := 2000000) (disch := omega) only [go_sem, ↓reduceIte] | with_reducible refine vIf_t ?_ | with_reducible refine vIf_f ?_))
              try rfl
          · have d4 : ((gPc ds i).owner != (gPc ds k).owner) = true := by rw [bne_iff_ne]; exact ho
            rw [if_pos (.inr (.inl ho))] at eC
            rw [joL, if_neg (by omega), eC]
            (try (repeat (first | simp (maxSteps := 2000000) (disch := omega) only [go_sem, ↓reduceIte, d3, d4] | with_reducible refine vIf_t ?_ | with_reducible refine vIf_f ?_)))
            refine retK_frz (.step 1 ⟨4, cPc []⟩ rfl (by (repeat (first | simp (maxSteps := 2000000) (disch := omega) only [go_sem, ↓reduceIte] | with_reducible refine vIf_t ?_ | with_reducible refine vIf_f ?_))) (.refl _)) ?_
            (repeat (first | simp (maxSteps := 2000000) (disch := omega) only [go_sem, ↓reduceIte] | with_reducible refine vIf_t ?_ | with_reducible refine vIf_f ?_))
            try rfl
        · have d2 : decide (0 ≤ pwI ds other) = false := decide_eq_false h2
          have ec : joC ds id other = 3 := by rw [joC, if_pos hok, if_pos hd, if_pos (by omega)]
          rw [joL, if_neg (by omega), ec]
          (try (repeat (first | simp (maxSteps := 2000000) (disch := omega) only [go_sem, ↓reduceIte, d0, d2] | with_reducible refine vIf_t ?_ | with_reducible refine vIf_f ?_)))
          refine retK_frz (.step 1 ⟨4, cPc []⟩ rfl (by (repeat (first | simp (maxSteps := 2000000) (disch := omega) only [go_sem, ↓reduceIte] | with_reducible refine vIf_t ?_ | with_reducible refine vIf_f ?_))) (.refl _)) ?_
          (repeat (first | simp (maxSteps := 2000000) (disch := omega) only [go_sem, ↓reduceIte] | with_reducible refine vIf_t ?_ | with_reducible refine vIf_f ?_))
          try rfl
      · have d0 : decide (0 ≤ pwI ds id) = false := decide_eq_false h0
        have ec : joC ds id other = 3 := by rw [joC, if_pos hok, if_pos hd, if_pos (by omega)]
        rw [joL, if_neg (by omega), ec]
        (try (repeat (first | simp (maxSteps := 2000000) (disch := omega) only [go_sem, ↓reduceIte, d0] | with_reducible refine vIf_t ?_ | with_reducible refine vIf_f ?_)))
        refine retK_frz (.step 1 ⟨4, cPc []⟩ rfl (by (repeat (first | simp (maxSteps := 2000000) (disch := omega) only [go_sem, ↓reduceIte] | with_reducible refine vIf_t ?_ | with_reducible refine vIf_f ?_))) (.refl _)) ?_
        (repeat (first | simp (maxSteps := 2000000) (disch := omega) only [go_sem, ↓reduceIte] | with_reducible refine vIf_t ?_ | with_reducible refine vIf_f ?_))
        try rfl
    · rw [if_neg hd] at hc
      have ec : joC ds id other = 2 := by rw [joC, if_pos hok, if_neg hd]
      rw [joL, if_neg (by omega), ec]
      (repeat (first | simp (maxSteps := 2000000) (disch := omega) only [go_sem, ↓reduceIte] | with_reducible refine vIf_t ?_ | with_reducible refine vIf_f ?_))
      (refine vCallX_of ?_; (repeat (first | simp (maxSteps := 2000000) (disch := omega) only [go_sem, ↓reduceIte] | with_reducible refine vIf_t ?_ | with_reducible refine vIf_f ?_)); refine vCall_eq (hc) (by simp (disch := omega) only [go_sem]) rfl (by first | exact Or.inl rfl | exact Or.inr ⟨rfl, rfl⟩ | (apply Or.inr; simp only [go_sem])) ?_; (repeat (first | simp (maxSteps := 2000000) (disch := omega) only [go_sem, ↓reduceIte] | with_reducible refine vIf_t ?_ | with_reducible refine vIf_f ?_)))
      refine retK_frz (.step 1 ⟨4, cPc []⟩ rfl (by (repeat (first | simp (maxSteps := 2000000) (disch := omega) only [go_sem, ↓reduceIte] | with_reducible refine vIf_t ?_ | with_reducible refine vIf_f ?_))) (.refl _)) ?_
      (repeat (first | simp (maxSteps := 2000000) (disch := omega) only [go_sem, ↓reduceIte] | with_reducible refine vIf_t ?_ | with_reducible refine vIf_f ?_))
      try rfl
end Go.Proofs.YtbbdfifpncjpnaaGreatDoor

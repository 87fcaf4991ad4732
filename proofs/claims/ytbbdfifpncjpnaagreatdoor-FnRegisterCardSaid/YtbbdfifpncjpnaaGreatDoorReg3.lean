/- the register: the model's walks -/
import Derived.Test.YtbbdfifpncjpnaaGreatDoorReg2
set_option linter.unusedVariables false
set_option linter.unusedSimpArgs false
namespace Go.Proofs.YtbbdfifpncjpnaaGreatDoor
open Go.AG Go.Lib

attribute [local go_sem] beq_self_eq_true bne_self_eq_false Bool.not_true Bool.not_false oP
theorem l19OneP_ok (p : Pc) : ACalls Tryz.prog 77 [.ip p.cells 0] [] (fun r o => r = B (pcB p) ∧ o = []) := by
  have h := l19One_ok [p] 0 (by simp)
  rw [cPc_one] at h
  exact h
theorem pos_gt {ds : List Pc} (hok : okP ds = true) {id : Int} (hn : pwI ds id < 0) (j : Nat) (h1 : paN ds id ≤ j) (h2 : j < ds.length) : id < (gPc ds j).id := by
  have P := paN_pos hok id
  have hge := P.ge (by omega)
  rcases pw_cases hok id with ⟨k, hk, e, _⟩ | ⟨_, hno⟩
  · omega
  · by_cases e : j = paN ds id
    · have := hno j h2; rw [e] at this ⊢; omega
    · have := okP_id hok (paN ds id) j (by omega) h2; omega
set_option maxRecDepth 20000 in
theorem l19Put_ok (ds : List Pc) (p : Pc) (hok : okP ds = true) (hn : pwI ds p.id < 0) : ACalls Tryz.prog 70 [.sl ds.length (cPc ds), .agg p.cells] []
    (fun r o => r = .ref 0 0 (ds.length + 1) ∧ o = [oP (insP ds (paN ds p.id) p)]) := by
  refine ACalls.of_vc Tryz.func70 rfl (by decide) 38 rfl [.tmp 4] rfl (by simp) ?_
  have h60 := (okP_all hok).1
  have P := paN_pos hok p.id
  have hgt := fun j => pos_gt hok hn j
  have hle := P.le
  have hlt := P.lt
  generalize paN ds p.id = a at *
  unfold Pc.cells
  (repeat (first | simp (maxSteps := 2000000) (disch := omega) only [go_sem, ↓reduceIte] | with_reducible refine vIf_t ?_ | with_reducible refine vIf_f ?_))
  refine vcLoop_invF (fun k : Nat => a ≤ k ∧ k ≤ ds.length) (fun k => ⟨38, 0, [(5, I k), (0, .sl ds.length (cPc ds)), (3, .ptr 0 0)], [some ⟨4, [I p.id, I p.owner, I p.area, I p.cls]⟩]⟩) (fun k => k) ds.length ⟨hle, Nat.le_refl _⟩ (by (first | (refine leF_s ?_; ((repeat (first | simp (maxSteps := 2000000) (disch := omega) only [go_sem, ↓reduceIte] | with_reducible refine vIf_t ?_ | with_reducible refine vIf_f ?_)); all_goals (try simp); all_goals (try omega)); done) | (refine leF_p ?_; ((repeat (first | simp (maxSteps := 2000000) (disch := omega) only [go_sem, ↓reduceIte] | with_reducible refine vIf_t ?_ | with_reducible refine vIf_f ?_)); all_goals (try simp); all_goals (try omega)); done))) ?_
  intro k ⟨hk1, hk2⟩
  (repeat (first | simp (maxSteps := 2000000) (disch := omega) only [go_sem, ↓reduceIte] | with_reducible refine vIf_t ?_ | with_reducible refine vIf_f ?_))
  (refine vDraw_sch 11 [(0, false), (1, false), (2, false), (3, false), (4, false), (5, false), (6, false), (7, false), (8, false), (9, false), (10, false)] mixed (by kernel_rfl) ?_; simp only [List.cons_append, List.nil_append, List.map_cons, List.map_nil, nthO_zero, nthO_succ, List.drop_succ_cons, List.drop_zero, List.drop_nil]; (repeat (first | simp (maxSteps := 2000000) (disch := omega) only [go_sem, ↓reduceIte] | with_reducible refine vIf_t ?_ | with_reducible refine vIf_f ?_)))
  by_cases hka : k = a
  · subst hka
    have fin : decide (0 < (k : Int)) = false ∨ (decide (0 < (k : Int)) = true ∧ decide (p.id < (gPc ds (k - 1)).id) = false) := by
      by_cases h : 0 < k
      · exact .inr ⟨decide_eq_true (by omega), decide_eq_false (by have := hlt (k - 1) (by omega); omega)⟩
      · exact .inl (decide_eq_false (by omega))
    have en : ((k : Int) - 1).toNat = k - 1 := by omega
    have en2 : ((ds.length : Int) - (k : Int)).toNat = ds.length - k := by omega
    have htk : List.take (ds.length - k) (ds.drop k) = ds.drop k := List.take_of_length_le (by simp)
    have hl1 : (ds.take k ++ [p]).length = k + 1 := by simp; omega
    rcases fin with d1 | ⟨d1, d2⟩
    · (try (repeat (first | simp (maxSteps := 2000000) (disch := omega) only [go_sem, ↓reduceIte, d1] | with_reducible refine vIf_t ?_ | with_reducible refine vIf_f ?_)))
      (repeat (first | simp (maxSteps := 2000000) (disch := omega) only [go_sem, ↓reduceIte, en2, htk] | with_reducible refine vIf_t ?_ | with_reducible refine vIf_f ?_))
      (refine retK_of ?_; (repeat (first | simp (maxSteps := 2000000) (disch := omega) only [go_sem, ↓reduceIte] | with_reducible refine vIf_t ?_ | with_reducible refine vIf_f ?_)))
      have ht2 : List.take (k + 1) (ds.take k ++ [(⟨p.id, p.owner, p.area, p.cls⟩ : Pc)]) = ds.take k ++ [p] := List.take_of_length_le (by simp; omega)
      rw [List.take_take, Nat.min_self, ht2, show k + 1 + (ds.length - k) = ds.length + 1 by omega]
      exact ⟨rfl, by first | (rw [← insP_eq]; done) | (rw [← insP_eq]; rfl)⟩
    · have hk0 : 0 < (k : Int) := of_decide_eq_true d1
      (try (repeat (first | simp (maxSteps := 2000000) (disch := omega) only [go_sem, ↓reduceIte, d1, en, d2] | with_reducible refine vIf_t ?_ | with_reducible refine vIf_f ?_)))
      (repeat (first | simp (maxSteps := 2000000) (disch := omega) only [go_sem, ↓reduceIte, en2, htk] | with_reducible refine vIf_t ?_ | with_reducible refine vIf_f ?_))
      (refine retK_of ?_; (repeat (first | simp (maxSteps := 2000000) (disch := omega) only [go_sem, ↓reduceIte] | with_reducible refine vIf_t ?_ | with_reducible refine vIf_f ?_)))
      have ht2 : List.take (k + 1) (ds.take k ++ [(⟨p.id, p.owner, p.area, p.cls⟩ : Pc)]) = ds.take k ++ [p] := List.take_of_length_le (by simp; omega)
      rw [List.take_take, Nat.min_self, ht2, show k + 1 + (ds.length - k) = ds.length + 1 by omega]
      exact ⟨rfl, by first | (rw [← insP_eq]; done) | (rw [← insP_eq]; rfl)⟩
  · have d1 : decide (0 < (k : Int)) = true := decide_eq_true (by omega)
    have d2 : decide (p.id < (gPc ds (k - 1)).id) = true := decide_eq_true (hgt (k - 1) (by omega) (by omega))
    have en : ((k : Int) - 1).toNat = k - 1 := by omega
    (try (repeat (first | simp (maxSteps := 2000000) (disch := omega) only [go_sem, ↓reduceIte, d1, en, d2] | with_reducible refine vIf_t ?_ | with_reducible refine vIf_f ?_)))
    refine againF (k - 1) (by omega) (by omega) ?_
    (first | (refine leF_s ?_; ((repeat (first | simp (maxSteps := 2000000) (disch := omega) only [go_sem, ↓reduceIte] | with_reducible refine vIf_t ?_ | with_reducible refine vIf_f ?_)); all_goals (try simp); all_goals (try omega)); done) | (refine leF_p ?_; ((repeat (first | simp (maxSteps := 2000000) (disch := omega) only [go_sem, ↓reduceIte] | with_reducible refine vIf_t ?_ | with_reducible refine vIf_f ?_)); all_goals (try simp); all_goals (try omega)); done))
theorem addPS_ok (ds : List Pc) (p : Pc) (hl : ds.length ≤ 1000000) : ACalls Tryz.prog 17 [.sl ds.length (cPc ds), .agg p.cells] [] (fun r o => r = .tup [.sl (adL ds p).length (cPc (adL ds p)), I (adC ds p)] ∧ o = []) := by
  refine ACalls.leT (Q := fun r ob => (r = .tup [.sl (adL ds p).length (cPc (adL ds p)), I (adC ds p)] ∧ ob = []) ∨ (r = .tup [nilS, I (adC ds p)] ∧ adL ds p = [] ∧ ob = [])) ?_ ?_
  rotate_left
  · intro r o hq
    rcases hq with ⟨rfl, rfl⟩ | ⟨rfl, h, rfl⟩
    · exact ⟨_, leR_refl _, rfl, rfl⟩
    · rw [h]; exact ⟨_, leR_nil2 _, rfl, rfl⟩
  refine ACalls.of_vc Tryz.func17 rfl (by decide) 22 rfl [.tmp 4, .tmp 5] rfl (by simp) ?_
  have hc := l19Ok_ok ds (by omega)
  have hi := l19OneP_ok p
  cases hok : okP ds with
  | false =>
    rw [hok] at hc
    have ec : adC ds p = 1 := by simp [adC, hok]
    rw [adL, if_neg (by omega), ec]
    unfold Pc.cells
    (repeat (first | simp (maxSteps := 2000000) (disch := omega) only [go_sem, ↓reduceIte] | with_reducible refine vIf_t ?_ | with_reducible refine vIf_f ?_))
    (refine vCallX_of ?_; (repeat (first | simp (maxSteps := 2000000) (disch := omega) only [go_sem, ↓reduceIte] | with_reducible refine vIf_t ?_ | with_reducible refine vIf_f ?_)); refine vCall_eq (hc) (by simp (disch := omega) only [go_sem]) rfl (by first | exact Or.inl rfl | exact Or.inr ⟨rfl, rfl⟩ | (apply Or.inr; simp only [go_sem])) ?_; (repeat (first | simp (maxSteps := 2000000) (disch := omega) only [go_sem, ↓reduceIte] | with_reducible refine vIf_t ?_ | with_reducible refine vIf_f ?_)))
    (refine retK_of ?_; (repeat (first | simp (maxSteps := 2000000) (disch := omega) only [go_sem, ↓reduceIte] | with_reducible refine vIf_t ?_ | with_reducible refine vIf_f ?_)))
    try simp
  | true =>
    rw [hok] at hc
    have h60 := (okP_all hok).1
    have hp := l19Find_ok ds p.id (by omega)
    have hw := l19Put_ok ds p hok
    unfold Pc.cells at hi hw ⊢
    (repeat (first | simp (maxSteps := 2000000) (disch := omega) only [go_sem, ↓reduceIte] | with_reducible refine vIf_t ?_ | with_reducible refine vIf_f ?_))
    (refine vCallX_of ?_; (repeat (first | simp (maxSteps := 2000000) (disch := omega) only [go_sem, ↓reduceIte] | with_reducible refine vIf_t ?_ | with_reducible refine vIf_f ?_)); refine vCall_eq (hc) (by simp (disch := omega) only [go_sem]) rfl (by first | exact Or.inl rfl | exact Or.inr ⟨rfl, rfl⟩ | (apply Or.inr; simp only [go_sem])) ?_; (repeat (first | simp (maxSteps := 2000000) (disch := omega) only [go_sem, ↓reduceIte] | with_reducible refine vIf_t ?_ | with_reducible refine vIf_f ?_)))
    cases hb : pcB p with
    | false =>
      rw [hb] at hi
      have ec : adC ds p = 2 := by simp [adC, hok, hb]
      rw [adL, if_neg (by omega), ec]
      (refine vCallX_of ?_; (repeat (first | simp (maxSteps := 2000000) (disch := omega) only [go_sem, ↓reduceIte] | with_reducible refine vIf_t ?_ | with_reducible refine vIf_f ?_)); refine vCall_eq (hi) (by simp (disch := omega) only [go_sem]) rfl (by first | exact Or.inl rfl | exact Or.inr ⟨rfl, rfl⟩ | (apply Or.inr; simp only [go_sem])) ?_; (repeat (first | simp (maxSteps := 2000000) (disch := omega) only [go_sem, ↓reduceIte] | with_reducible refine vIf_t ?_ | with_reducible refine vIf_f ?_)))
      (refine retK_of ?_; (repeat (first | simp (maxSteps := 2000000) (disch := omega) only [go_sem, ↓reduceIte] | with_reducible refine vIf_t ?_ | with_reducible refine vIf_f ?_)))
      try simp
    | true =>
      rw [hb] at hi
      (refine vCallX_of ?_; (repeat (first | simp (maxSteps := 2000000) (disch := omega) only [go_sem, ↓reduceIte] | with_reducible refine vIf_t ?_ | with_reducible refine vIf_f ?_)); refine vCall_eq (hi) (by simp (disch := omega) only [go_sem]) rfl (by first | exact Or.inl rfl | exact Or.inr ⟨rfl, rfl⟩ | (apply Or.inr; simp only [go_sem])) ?_; (repeat (first | simp (maxSteps := 2000000) (disch := omega) only [go_sem, ↓reduceIte] | with_reducible refine vIf_t ?_ | with_reducible refine vIf_f ?_)))
      (refine vCallX_of ?_; (repeat (first | simp (maxSteps := 2000000) (disch := omega) only [go_sem, ↓reduceIte] | with_reducible refine vIf_t ?_ | with_reducible refine vIf_f ?_)); refine vCall_eq (hp) (by simp (disch := omega) only [go_sem]) rfl (by first | exact Or.inl rfl | exact Or.inr ⟨rfl, rfl⟩ | (apply Or.inr; simp only [go_sem])) ?_; (repeat (first | simp (maxSteps := 2000000) (disch := omega) only [go_sem, ↓reduceIte] | with_reducible refine vIf_t ?_ | with_reducible refine vIf_f ?_)))
      by_cases h0 : 0 ≤ pwI ds p.id
      · have d0 : decide (0 ≤ pwI ds p.id) = true := decide_eq_true h0
        have ec : adC ds p = 4 := by rw [adC, if_pos hok, if_pos hb, if_pos h0]
        rw [adL, if_neg (by omega), ec]
        (try (repeat (first | simp (maxSteps := 2000000) (disch := omega) only [go_sem, ↓reduceIte, d0] | with_reducible refine vIf_t ?_ | with_reducible refine vIf_f ?_)))
        (refine retK_of ?_; (repeat (first | simp (maxSteps := 2000000) (disch := omega) only [go_sem, ↓reduceIte] | with_reducible refine vIf_t ?_ | with_reducible refine vIf_f ?_)))
        try simp
      · have d0 : decide (0 ≤ pwI ds p.id) = false := decide_eq_false h0
        (try (repeat (first | simp (maxSteps := 2000000) (disch := omega) only [go_sem, ↓reduceIte, d0] | with_reducible refine vIf_t ?_ | with_reducible refine vIf_f ?_)))
        by_cases h6 : ds.length = 60
        · have d1 : decide (60 ≤ (ds.length : Int)) = true := decide_eq_true (by omega)
          have ec : adC ds p = 5 := by rw [adC, if_pos hok, if_pos hb, if_neg h0, if_pos h6]
          rw [adL, if_neg (by omega), ec]
          (try (repeat (first | simp (maxSteps := 2000000) (disch := omega) only [go_sem, ↓reduceIte, d1] | with_reducible refine vIf_t ?_ | with_reducible refine vIf_f ?_)))
          (refine retK_of ?_; (repeat (first | simp (maxSteps := 2000000) (disch := omega) only [go_sem, ↓reduceIte] | with_reducible refine vIf_t ?_ | with_reducible refine vIf_f ?_)))
          try simp
        · have d1 : decide (60 ≤ (ds.length : Int)) = false := decide_eq_false (by omega)
          have ec : adC ds p = 0 := by rw [adC, if_pos hok, if_pos hb, if_neg h0, if_neg h6]
          have hil := insP_len ds (paN ds p.id) p (paN_pos hok p.id).le
          have hw := hw (by omega)
          rw [adL, if_pos ec, ec]
          (try (repeat (first | simp (maxSteps := 2000000) (disch := omega) only [go_sem, ↓reduceIte, d1] | with_reducible refine vIf_t ?_ | with_reducible refine vIf_f ?_)))
          (refine vCallX_of ?_; (repeat (first | simp (maxSteps := 2000000) (disch := omega) only [go_sem, ↓reduceIte] | with_reducible refine vIf_t ?_ | with_reducible refine vIf_f ?_)); refine vCall_eq (hw) (by simp (disch := omega) only [go_sem]) rfl (by first | exact Or.inl rfl | exact Or.inr ⟨rfl, rfl⟩ | (apply Or.inr; simp only [go_sem])) ?_; (repeat (first | simp (maxSteps := 2000000) (disch := omega) only [go_sem, ↓reduceIte] | with_reducible refine vIf_t ?_ | with_reducible refine vIf_f ?_)))
          refine retK_frz (.step 1 ⟨4, cPc (insP ds (paN ds p.id) p)⟩ rfl (by (repeat (first | simp (maxSteps := 2000000) (disch := omega) only [go_sem, ↓reduceIte] | with_reducible refine vIf_t ?_ | with_reducible refine vIf_f ?_))) (.refl _)) ?_
          (repeat (first | simp (maxSteps := 2000000) (disch := omega) only [go_sem, ↓reduceIte] | with_reducible refine vIf_t ?_ | with_reducible refine vIf_f ?_))
          simp [hil]
set_option maxRecDepth 20000 in
theorem sellPS_ok (ds : List Pc) (id o : Int) (hl : ds.length ≤ 1000000) : ACalls Tryz.prog 14 [.sl ds.length (cPc ds), I id, I o] [] (fun r ob => r = .tup [.sl (seL ds id o).length (cPc (seL ds id o)), I (seC ds id o)] ∧ ob = []) := by
  refine ACalls.leT (Q := fun r ob => (r = .tup [.sl (seL ds id o).length (cPc (seL ds id o)), I (seC ds id o)] ∧ ob = []) ∨ (r = .tup [nilS, I (seC ds id o)] ∧ seL ds id o = [] ∧ ob = [])) ?_ ?_
  rotate_left
  · intro r o hq
    rcases hq with ⟨rfl, rfl⟩ | ⟨rfl, h, rfl⟩
    · exact ⟨_, leR_refl _, rfl, rfl⟩
    · rw [h]; exact ⟨_, leR_nil2 _, rfl, rfl⟩
  refine ACalls.of_vc Tryz.func14 rfl (by decide) 48 rfl [.tmp 6, .tmp 7] rfl (by simp) ?_
  have hc := l19Ok_ok ds (by omega)
  have hid := l19Id_ok id
  have hi := l19Owner_ok o
  cases hok : okP ds with
  | false =>
    rw [hok] at hc
    have ec : seC ds id o = 1 := by simp [seC, hok]
    rw [seL, if_neg (by omega), ec]
    (repeat (first | simp (maxSteps := 2000000) (disch := omega) only [go_sem, ↓reduceIte] | with_reducible refine vIf_t ?_ | with_reducible refine vIf_f ?_))
    (refine vCallX_of ?_; (repeat (first | simp (maxSteps := 2000000) (disch := omega) only [go_sem, ↓reduceIte] | with_reducible refine vIf_t ?_ | with_reducible refine vIf_f ?_)); refine vCall_eq (hc) (by simp (disch := omega) only [go_sem]) rfl (by first | exact Or.inl rfl | exact Or.inr ⟨rfl, rfl⟩ | (apply Or.inr; simp only [go_sem])) ?_; (repeat (first | simp (maxSteps := 2000000) (disch := omega) only [go_sem, ↓reduceIte] | with_reducible refine vIf_t ?_ | with_reducible refine vIf_f ?_)))
    (refine retK_of ?_; (repeat (first | simp (maxSteps := 2000000) (disch := omega) only [go_sem, ↓reduceIte] | with_reducible refine vIf_t ?_ | with_reducible refine vIf_f ?_)))
    try simp
  | true =>
    rw [hok] at hc
    have h60 := (okP_all hok).1
    have hp := l19Find_ok ds id (by omega)
    by_cases hd : 1 ≤ id ∧ id ≤ 9999
    · rw [decide_eq_true hd] at hid
      (repeat (first | simp (maxSteps := 2000000) (disch := omega) only [go_sem, ↓reduceIte] | with_reducible refine vIf_t ?_ | with_reducible refine vIf_f ?_))
      (refine vCallX_of ?_; (repeat (first | simp (maxSteps := 2000000) (disch := omega) only [go_sem, ↓reduceIte] | with_reducible refine vIf_t ?_ | with_reducible refine vIf_f ?_)); refine vCall_eq (hc) (by simp (disch := omega) only [go_sem]) rfl (by first | exact Or.inl rfl | exact Or.inr ⟨rfl, rfl⟩ | (apply Or.inr; simp only [go_sem])) ?_; (repeat (first | simp (maxSteps := 2000000) (disch := omega) only [go_sem, ↓reduceIte] | with_reducible refine vIf_t ?_ | with_reducible refine vIf_f ?_)))
      (refine vCallX_of ?_; (repeat (first | simp (maxSteps := 2000000) (disch := omega) only [go_sem, ↓reduceIte] | with_reducible refine vIf_t ?_ | with_reducible refine vIf_f ?_)); refine vCall_eq (hid) (by simp (disch := omega) only [go_sem]) rfl (by first | exact Or.inl rfl | exact Or.inr ⟨rfl, rfl⟩ | (apply Or.inr; simp only [go_sem])) ?_; (repeat (first | simp (maxSteps := 2000000) (disch := omega) only [go_sem, ↓reduceIte] | with_reducible refine vIf_t ?_ | with_reducible refine vIf_f ?_)))
      by_cases ho : 0 ≤ o ∧ o ≤ 39
      · rw [decide_eq_true ho] at hi
        (refine vCallX_of ?_; (repeat (first | simp (maxSteps := 2000000) (disch := omega) only [go_sem, ↓reduceIte] | with_reducible refine vIf_t ?_ | with_reducible refine vIf_f ?_)); refine vCall_eq (hi) (by simp (disch := omega) only [go_sem]) rfl (by first | exact Or.inl rfl | exact Or.inr ⟨rfl, rfl⟩ | (apply Or.inr; simp only [go_sem])) ?_; (repeat (first | simp (maxSteps := 2000000) (disch := omega) only [go_sem, ↓reduceIte] | with_reducible refine vIf_t ?_ | with_reducible refine vIf_f ?_)))
        (refine vCallX_of ?_; (repeat (first | simp (maxSteps := 2000000) (disch := omega) only [go_sem, ↓reduceIte] | with_reducible refine vIf_t ?_ | with_reducible refine vIf_f ?_)); refine vCall_eq (hp) (by simp (disch := omega) only [go_sem]) rfl (by first | exact Or.inl rfl | exact Or.inr ⟨rfl, rfl⟩ | (apply Or.inr; simp only [go_sem])) ?_; (repeat (first | simp (maxSteps := 2000000) (disch := omega) only [go_sem, ↓reduceIte] | with_reducible refine vIf_t ?_ | with_reducible refine vIf_f ?_)))
        by_cases h0 : 0 ≤ pwI ds id
        · have d0 : decide (pwI ds id < 0) = false := decide_eq_false (by omega)
          obtain ⟨q1, q2⟩ := pa_pw hok h0
          generalize paN ds id = k at *
          have e1 : (pwI ds id).toNat = k := by rw [q2]; rfl
          (try (repeat (first | simp (maxSteps := 2000000) (disch := omega) only [go_sem, ↓reduceIte, d0, e1] | with_reducible refine vIf_t ?_ | with_reducible refine vIf_f ?_)))
          by_cases hs : (gPc ds k).owner = o
          · have d1 : ((gPc ds k).owner == o) = true := by rw [beq_iff_eq]; exact hs
            have ec : seC ds id o = 6 := by rw [seC, if_pos hok, if_pos ⟨hd, ho⟩, if_neg (by omega), e1, if_pos hs]
            rw [seL, if_neg (by omega), ec]
            (try (repeat (first | simp (maxSteps := 2000000) (disch := omega) only [go_sem, ↓reduceIte, d1] | with_reducible refine vIf_t ?_ | with_reducible refine vIf_f ?_)))
            (refine retK_of ?_; (repeat (first | simp (maxSteps := 2000000) (disch := omega) only [go_sem, ↓reduceIte] | with_reducible refine vIf_t ?_ | with_reducible refine vIf_f ?_)))
            try simp
          · have d1 : ((gPc ds k).owner == o) = false := by rw [beq_eq_false_iff_ne]; exact hs
            have ec : seC ds id o = 0 := by rw [seC, if_pos hok, if_pos ⟨hd, ho⟩, if_neg (by omega), e1, if_neg hs]
            rw [seL, if_pos ec, ec, e1]
            unfold seV
            (try (repeat (first | simp (maxSteps := 2000000) (disch := omega) only [go_sem, ↓reduceIte, d1] | with_reducible refine vIf_t ?_ | with_reducible refine vIf_f ?_)))
            (repeat (first | simp (maxSteps := 2000000) (disch := omega) only [go_sem, ↓reduceIte, e1] | with_reducible refine vIf_t ?_ | with_reducible refine vIf_f ?_))
            refine retK_frz (.step 0 _ rfl (by (repeat (first | simp (maxSteps := 2000000) (disch := omega) only [go_sem, ↓reduceIte] | with_reducible refine vIf_t ?_ | with_reducible refine vIf_f ?_))) (.refl _)) ?_
            (repeat (first | simp (maxSteps := 2000000) (disch := omega) only [go_sem, ↓reduceIte] | with_reducible refine vIf_t ?_ | with_reducible refine vIf_f ?_))
            simp [List.take_of_length_le]
        · have d0 : decide (pwI ds id < 0) = true := decide_eq_true (by omega)
          have ec : seC ds id o = 3 := by rw [seC, if_pos hok, if_pos ⟨hd, ho⟩, if_pos (by omega)]
          rw [seL, if_neg (by omega), ec]
          (try (repeat (first | simp (maxSteps := 2000000) (disch := omega) only [go_sem, ↓reduceIte, d0] | with_reducible refine vIf_t ?_ | with_reducible refine vIf_f ?_)))
          (refine retK_of ?_; (repeat (first | simp (maxSteps := 2000000) (disch := omega) only [go_sem, ↓reduceIte] | with_reducible refine vIf_t ?_ | with_reducible refine vIf_f ?_)))
          try simp
      · rw [decide_eq_false ho] at hi
        have ec : seC ds id o = 2 := by rw [seC, if_pos hok, if_neg (fun g => ho g.2)]
        rw [seL, if_neg (by omega), ec]
        (refine vCallX_of ?_; (repeat (first | simp (maxSteps := 2000000) (disch := omega) only [go_sem, ↓reduceIte] | with_reducible refine vIf_t ?_ | with_reducible refine vIf_f ?_)); refine vCall_eq (hi) (by simp (disch := omega) only [go_sem]) rfl (by first | exact Or.inl rfl | exact Or.inr ⟨rfl, rfl⟩ | (apply Or.inr; simp only [go_sem])) ?_; (repeat (first | simp (maxSteps := 2000000) (disch := omega) only [go_sem, ↓reduceIte] | with_reducible refine vIf_t ?_ | with_reducible refine vIf_f ?_)))
        (refine retK_of ?_; (repeat (first | simp (maxSteps := 2000000) (disch := omega) only [go_sem, ↓reduceIte] | with_reducible refine vIf_t ?_ | with_reducible refine vIf_f ?_)))
        try simp
    · rw [decide_eq_false hd] at hid
      have ec : seC ds id o = 2 := by rw [seC, if_pos hok, if_neg (fun g => hd g.1)]
      rw [seL, if_neg (by omega), ec]
      (repeat (first | simp (maxSteps := 2000000) (disch := omega) only [go_sem, ↓reduceIte] | with_reducible refine vIf_t ?_ | with_reducible refine vIf_f ?_))
      (refine vCallX_of ?_; (repeat (first | simp (maxSteps := 2000000) (disch := omega) only [go_sem, ↓reduceIte] | with_reducible refine vIf_t ?_ | with_reducible refine vIf_f ?_)); refine vCall_eq (hc) (by simp (disch := omega) only [go_sem]) rfl (by first | exact Or.inl rfl | exact Or.inr ⟨rfl, rfl⟩ | (apply Or.inr; simp only [go_sem])) ?_; (repeat (first | simp (maxSteps := 2000000) (disch := omega) only [go_sem, ↓reduceIte] | with_reducible refine vIf_t ?_ | with_reducible refine vIf_f ?_)))
      (refine vCallX_of ?_; (repeat (first | simp (maxSteps := 2000000) (disch := omega) only [go_sem, ↓reduceIte] | with_reducible refine vIf_t ?_ | with_reducible refine vIf_f ?_)); refine vCall_eq (hid) (by simp (disch := omega) only [go_sem]) rfl (by first | exact Or.inl rfl | exact Or.inr ⟨rfl, rfl⟩ | (apply Or.inr; simp only [go_sem])) ?_; (repeat (first | simp (maxSteps := 2000000) (disch := omega) only [go_sem, ↓reduceIte] | with_reducible refine vIf_t ?_ | with_reducible refine vIf_f ?_)))
      (refine retK_of ?_; (repeat (first | simp (maxSteps := 2000000) (disch := omega) only [go_sem, ↓reduceIte] | with_reducible refine vIf_t ?_ | with_reducible refine vIf_f ?_)))
      try simp
set_option maxRecDepth 20000 in
theorem splitPS_ok (ds : List Pc) (id area other : Int) (hl : ds.length ≤ 1000000) : ACalls Tryz.prog 8 [.sl ds.length (cPc ds), I id, I area, I other] [] (fun r ob => r = .tup [.sl (splL ds id area other).length (cPc (splL ds id area other)), I (spC ds id area other)] ∧ ob = []) := by
  refine ACalls.leT (Q := fun r ob => (r = .tup [.sl (splL ds id area other).length (cPc (splL ds id area other)), I (spC ds id area other)] ∧ ob = []) ∨ (r = .tup [nilS, I (spC ds id area other)] ∧ splL ds id area other = [] ∧ ob = [])) ?_ ?_
  rotate_left
  · intro r o hq
    rcases hq with ⟨rfl, rfl⟩ | ⟨rfl, h, rfl⟩
    · exact ⟨_, leR_refl _, rfl, rfl⟩
    · rw [h]; exact ⟨_, leR_nil2 _, rfl, rfl⟩
  refine ACalls.of_vc Tryz.func8 rfl (by decide) 71 rfl [.tmp 8, .tmp 9] rfl (by simp) ?_
  have hc := l19Ok_ok ds (by omega)
  have hid := l19Id_ok id
  have hid2 := l19Id_ok other
  have hi := inS_ok area 1 10000000
  cases hok : okP ds with
  | false =>
    rw [hok] at hc
    have ec : spC ds id area other = 1 := by simp [spC, hok]
    rw [splL, if_neg (by omega), ec]
    (repeat (first | simp (maxSteps := 2000000) (disch := omega) only [go_sem, ↓reduceIte] | with_reducible refine vIf_t ?_ | with_reducible refine vIf_f ?_))
    (refine vCallX_of ?_; (repeat (first | simp (maxSteps := 2000000) (disch := omega) only [go_sem, ↓reduceIte] | with_reducible refine vIf_t ?_ | with_reducible refine vIf_f ?_)); refine vCall_eq (hc) (by simp (disch := omega) only [go_sem]) rfl (by first | exact Or.inl rfl | exact Or.inr ⟨rfl, rfl⟩ | (apply Or.inr; simp only [go_sem])) ?_; (repeat (first | simp (maxSteps := 2000000) (disch := omega) only [go_sem, ↓reduceIte] | with_reducible refine vIf_t ?_ | with_reducible refine vIf_f ?_)))
    (refine retK_of ?_; (repeat (first | simp (maxSteps := 2000000) (disch := omega) only [go_sem, ↓reduceIte] | with_reducible refine vIf_t ?_ | with_reducible refine vIf_f ?_)))
    try simp
  | true =>
    rw [hok] at hc
    have h60 := (okP_all hok).1
    have no2 : ¬ (((1 ≤ id ∧ id ≤ 9999) ∧ (1 ≤ other ∧ other ≤ 9999)) ∧ (1 ≤ area ∧ area ≤ 10000000)) → spC ds id area other = 2 := fun h => by rw [spC, if_pos hok, if_neg h]
    have hp := l19Find_ok ds id (by omega)
    have hp2 := l19Find_ok ds other (by omega)
    (repeat (first | simp (maxSteps := 2000000) (disch := omega) only [go_sem, ↓reduceIte] | with_reducible refine vIf_t ?_ | with_reducible refine vIf_f ?_))
    (refine vCallX_of ?_; (repeat (first | simp (maxSteps := 2000000) (disch := omega) only [go_sem, ↓reduceIte] | with_reducible refine vIf_t ?_ | with_reducible refine vIf_f ?_)); refine vCall_eq (hc) (by simp (disch := omega) only [go_sem]) rfl (by first | exact Or.inl rfl | exact Or.inr ⟨rfl, rfl⟩ | (apply Or.inr; simp only [go_sem])) ?_; (repeat (first | simp (maxSteps := 2000000) (disch := omega) only [go_sem, ↓reduceIte] | with_reducible refine vIf_t ?_ | with_reducible refine vIf_f ?_)))
    by_cases hd1 : 1 ≤ id ∧ id ≤ 9999
    · rw [decide_eq_true hd1] at hid
      (refine vCallX_of ?_; (repeat (first | simp (maxSteps := 2000000) (disch := omega) only [go_sem, ↓reduceIte] | with_reducible refine vIf_t ?_ | with_reducible refine vIf_f ?_)); refine vCall_eq (hid) (by simp (disch := omega) only [go_sem]) rfl (by first | exact Or.inl rfl | exact Or.inr ⟨rfl, rfl⟩ | (apply Or.inr; simp only [go_sem])) ?_; (repeat (first | simp (maxSteps := 2000000) (disch := omega) only [go_sem, ↓reduceIte] | with_reducible refine vIf_t ?_ | with_reducible refine vIf_f ?_)))
      by_cases hd2 : 1 ≤ other ∧ other ≤ 9999
      · rw [decide_eq_true hd2] at hid2
        (refine vCallX_of ?_; (repeat (first | simp (maxSteps := 2000000) (disch := omega) only [go_sem, ↓reduceIte] | with_reducible refine vIf_t ?_ | with_reducible refine vIf_f ?_)); refine vCall_eq (hid2) (by simp (disch := omega) only [go_sem]) rfl (by first | exact Or.inl rfl | exact Or.inr ⟨rfl, rfl⟩ | (apply Or.inr; simp only [go_sem])) ?_; (repeat (first | simp (maxSteps := 2000000) (disch := omega) only [go_sem, ↓reduceIte] | with_reducible refine vIf_t ?_ | with_reducible refine vIf_f ?_)))
        by_cases ho : 1 ≤ area ∧ area ≤ 10000000
        · have hd : (1 ≤ id ∧ id ≤ 9999) ∧ (1 ≤ other ∧ other ≤ 9999) := ⟨hd1, hd2⟩
          rw [decide_eq_true ho] at hi
          (refine vCallX_of ?_; (repeat (first | simp (maxSteps := 2000000) (disch := omega) only [go_sem, ↓reduceIte] | with_reducible refine vIf_t ?_ | with_reducible refine vIf_f ?_)); refine vCall_eq (hi) (by simp (disch := omega) only [go_sem]) rfl (by first | exact Or.inl rfl | exact Or.inr ⟨rfl, rfl⟩ | (apply Or.inr; simp only [go_sem])) ?_; (repeat (first | simp (maxSteps := 2000000) (disch := omega) only [go_sem, ↓reduceIte] | with_reducible refine vIf_t ?_ | with_reducible refine vIf_f ?_)))
          (refine vCallX_of ?_; (repeat (first | simp (maxSteps := 2000000) (disch := omega) only [go_sem, ↓reduceIte] | with_reducible refine vIf_t ?_ | with_reducible refine vIf_f ?_)); refine vCall_eq (hp) (by simp (disch := omega) only [go_sem]) rfl (by first | exact Or.inl rfl | exact Or.inr ⟨rfl, rfl⟩ | (apply Or.inr; simp only [go_sem])) ?_; (repeat (first | simp (maxSteps := 2000000) (disch := omega) only [go_sem, ↓reduceIte] | with_reducible refine vIf_t ?_ | with_reducible refine vIf_f ?_)))
          by_cases h0 : 0 ≤ pwI ds id
          · have d0 : decide (pwI ds id < 0) = false := decide_eq_false (by omega)
            obtain ⟨q1, q2⟩ := pa_pw hok h0
            generalize hkk : paN ds id = k at *
            have e1 : (pwI ds id).toNat = k := by rw [q2]; rfl
            (try (repeat (first | simp (maxSteps := 2000000) (disch := omega) only [go_sem, ↓reduceIte, d0] | with_reducible refine vIf_t ?_ | with_reducible refine vIf_f ?_)))
            (refine vCallX_of ?_; (repeat (first | simp (maxSteps := 2000000) (disch := omega) only [go_sem, ↓reduceIte] | with_reducible refine vIf_t ?_ | with_reducible refine vIf_f ?_)); refine vCall_eq (hp2) (by simp (disch := omega) only [go_sem]) rfl (by first | exact Or.inl rfl | exact Or.inr ⟨rfl, rfl⟩ | (apply Or.inr; simp only [go_sem])) ?_; (repeat (first | simp (maxSteps := 2000000) (disch := omega) only [go_sem, ↓reduceIte] | with_reducible refine vIf_t ?_ | with_reducible refine vIf_f ?_)))
            by_cases h2 : 0 ≤ pwI ds other
            · have d2 : decide (0 ≤ pwI ds other) = true := decide_eq_true h2
              have ec : spC ds id area other = 4 := by rw [spC, if_pos hok, if_pos ⟨hd, ho⟩, if_neg (by omega), if_pos h2]
              rw [splL, if_neg (by omega), ec]
              (try (repeat (first | simp (maxSteps := 2000000) (disch := omega) only [go_sem, ↓reduceIte, d2] | with_reducible refine vIf_t ?_ | with_reducible refine vIf_f ?_)))
              (refine retK_of ?_; (repeat (first | simp (maxSteps := 2000000) (disch := omega) only [go_sem, ↓reduceIte] | with_reducible refine vIf_t ?_ | with_reducible refine vIf_f ?_)))
              try simp
            · have d2 : decide (0 ≤ pwI ds other) = false := decide_eq_false h2
              (try (repeat (first | simp (maxSteps := 2000000) (disch := omega) only [go_sem, ↓reduceIte, d2, e1] | with_reducible refine vIf_t ?_ | with_reducible refine vIf_f ?_)))
              by_cases hs : (gPc ds k).area ≤ area
              · have d1 : decide ((gPc ds k).area ≤ area) = true := decide_eq_true hs
                have ec : spC ds id area other = 6 := by rw [spC, if_pos hok, if_pos ⟨hd, ho⟩, if_neg (by omega), if_neg h2, e1, if_pos hs]
                rw [splL, if_neg (by omega), ec]
                (try (repeat (first | simp (maxSteps := 2000000) (disch := omega) only [go_sem, ↓reduceIte, d1] | with_reducible refine vIf_t ?_ | with_reducible refine vIf_f ?_)))
                (refine retK_of ?_; (repeat (first | simp (maxSteps := 2000000) (disch := omega) only [go_sem, ↓reduceIte] | with_reducible refine vIf_t ?_ | with_reducible refine vIf_f ?_)))
                try simp
              · have d1 : decide ((gPc ds k).area ≤ area) = false := decide_eq_false hs
                (try (repeat (first | simp (maxSteps := 2000000) (disch := omega) only [go_sem, ↓reduceIte, d1] | with_reducible refine vIf_t ?_ | with_reducible refine vIf_f ?_)))
                by_cases h6 : ds.length = 60
                · have d3 : decide (60 ≤ (ds.length : Int)) = true := decide_eq_true (by omega)
                  have ec : spC ds id area other = 5 := by rw [spC, if_pos hok, if_pos ⟨hd, ho⟩, if_neg (by omega), if_neg h2, e1, if_neg hs, if_pos h6]
                  rw [splL, if_neg (by omega), ec]
                  (try (repeat (first | simp (maxSteps := 2000000) (disch := omega) only [go_sem, ↓reduceIte, d3] | with_reducible refine vIf_t ?_ | with_reducible refine vIf_f ?_)))
                  (refine retK_of ?_; (repeat (first | simp (maxSteps := 2000000) (disch := omega) only [go_sem, ↓reduceIte] | with_reducible refine vIf_t ?_ | with_reducible refine vIf_f ?_)))
                  try simp
                · have d3 : decide (60 ≤ (ds.length : Int)) = false := decide_eq_false (by omega)
                  have ec : spC ds id area other = 0 := by rw [spC, if_pos hok, if_pos ⟨hd, ho⟩, if_neg (by omega), if_neg h2, e1, if_neg hs, if_neg h6]
                  have hpk := (pcB_iff _).1 (okP_pc hok _ (gPc_mem ds k q1))
                  have okv : okP (spV ds k area) = true := set_ok hok q1 rfl ((pcB_iff _).2 ⟨hpk.1, hpk.2.1, by simp only; omega, hpk.2.2.2⟩)
                  have hnv : pwI (spV ds k area) other < 0 := by
                    have := set_pw (p := ⟨(gPc ds k).id, (gPc ds k).owner, (gPc ds k).area - area, (gPc ds k).cls⟩) q1 rfl other
                    rw [spV, this]; omega
                  have hw := l19Put_ok (spV ds k area) ⟨other, (gPc ds k).owner, area, (gPc ds k).cls⟩ okv hnv
                  have hsl : (spV ds k area).length = ds.length := by rw [spV, List.length_set]
                  have hil := insP_len (spV ds k area) (paN (spV ds k area) other) ⟨other, (gPc ds k).owner, area, (gPc ds k).cls⟩ (paN_pos okv other).le
                  rw [hsl] at hw hil
                  rw [splL, if_pos ec, ec, e1, spW]
                  have hse : ds.set k ⟨(gPc ds k).id, (gPc ds k).owner, (gPc ds k).area - area, (gPc ds k).cls⟩ = spV ds k area := rfl
                  generalize spV ds k area = es at *
                  unfold Pc.cells at hw
                  simp only at hw
                  (try (repeat (first | simp (maxSteps := 2000000) (disch := omega) only [go_sem, ↓reduceIte, d3] | with_reducible refine vIf_t ?_ | with_reducible refine vIf_f ?_)))
                  (repeat (first | simp (maxSteps := 2000000) (disch := omega) only [go_sem, ↓reduceIte, hse, e1] | with_reducible refine vIf_t ?_ | with_reducible refine vIf_f ?_))
                  (refine vCallX_of ?_; (repeat (first | simp (maxSteps := 2000000) (disch := omega) only [go_sem, ↓reduceIte] | with_reducible refine vIf_t ?_ | with_reducible refine vIf_f ?_)); refine vCall_eq (hw) (by simp (disch := omega) only [go_sem]) rfl (by first | exact Or.inl rfl | exact Or.inr ⟨rfl, rfl⟩ | (apply Or.inr; simp only [go_sem])) ?_; (repeat (first | simp (maxSteps := 2000000) (disch := omega) only [go_sem, ↓reduceIte] | with_reducible refine vIf_t ?_ | with_reducible refine vIf_f ?_)))
                  rw [← hil]
                  refine retK_frz (.step 2 ⟨4, cPc (insP es (paN es other) ⟨other, (gPc ds k).owner, area, (gPc ds k).cls⟩)⟩ rfl (by (repeat (first | simp (maxSteps := 2000000) (disch := omega) only [go_sem, ↓reduceIte] | with_reducible refine vIf_t ?_ | with_reducible refine vIf_f ?_))) (.refl _)) ?_
                  (repeat (first | simp (maxSteps := 2000000) (disch := omega) only [go_sem, ↓reduceIte] | with_reducible refine vIf_t ?_ | with_reducible refine vIf_f ?_))
                  simp
          · have d0 : decide (pwI ds id < 0) = true := decide_eq_true (by omega)
            have ec : spC ds id area other = 3 := by rw [spC, if_pos hok, if_pos ⟨hd, ho⟩, if_pos (by omega)]
            rw [splL, if_neg (by omega), ec]
            (try (repeat (first | simp (maxSteps := 2000000) (disch := omega) only [go_sem, ↓reduceIte, d0] | with_reducible refine vIf_t ?_ | with_reducible refine vIf_f ?_)))
            (refine retK_of ?_; (repeat (first | simp (maxSteps := 2000000) (disch := omega) only [go_sem, ↓reduceIte] | with_reducible refine vIf_t ?_ | with_reducible refine vIf_f ?_)))
            try simp
        · rw [decide_eq_false ho] at hi
          have ec := no2 (fun g => ho g.2)
          rw [splL, if_neg (by omega), ec]
          (refine vCallX_of ?_; (repeat (first | simp (maxSteps := 2000000) (disch := omega) only [go_sem, ↓reduceIte] | with_reducible refine vIf_t ?_ | with_reducible refine vIf_f ?_)); refine vCall_eq (hi) (by simp (disch := omega) only [go_sem]) rfl (by first | exact Or.inl rfl | exact Or.inr ⟨rfl, rfl⟩ | (apply Or.inr; simp only [go_sem])) ?_; (repeat (first | simp (maxSteps := 2000000) (disch := omega) only [go_sem, ↓reduceIte] | with_reducible refine vIf_t ?_ | with_reducible refine vIf_f ?_)))
          (refine retK_of ?_; (repeat (first | simp (maxSteps := 2000000) (disch := omega) only [go_sem, ↓reduceIte] | with_reducible refine vIf_t ?_ | with_reducible refine vIf_f ?_)))
          try simp
      · rw [decide_eq_false hd2] at hid2
        have ec := no2 (fun g => hd2 g.1.2)
        rw [splL, if_neg (by omega), ec]
        (refine vCallX_of ?_; (repeat (first | simp (maxSteps := 2000000) (disch := omega) only [go_sem, ↓reduceIte] | with_reducible refine vIf_t ?_ | with_reducible refine vIf_f ?_)); refine vCall_eq (hid2) (by simp (disch := omega) only [go_sem]) rfl (by first | exact Or.inl rfl | exact Or.inr ⟨rfl, rfl⟩ | (apply Or.inr; simp only [go_sem])) ?_; (repeat (first | simp (maxSteps := 2000000) (disch := omega) only [go_sem, ↓reduceIte] | with_reducible refine vIf_t ?_ | with_reducible refine vIf_f ?_)))
        (refine retK_of ?_; (repeat (first | simp (maxSteps := 2000000) (disch := omega) only [go_sem, ↓reduceIte] | with_reducible refine vIf_t ?_ | with_reducible refine vIf_f ?_)))
        try simp
    · rw [decide_eq_false hd1] at hid
      have ec := no2 (fun g => hd1 g.1.1)
      rw [splL, if_neg (by omega), ec]
      (refine vCallX_of ?_; (repeat (first | simp (maxSteps := 2000000) (disch := omega) only [go_sem, ↓reduceIte] | with_reducible refine vIf_t ?_ | with_reducible refine vIf_f ?_)); refine vCall_eq (hid) (by simp (disch := omega) only [go_sem]) rfl (by first | exact Or.inl rfl | exact Or.inr ⟨rfl, rfl⟩ | (apply Or.inr; simp only [go_sem])) ?_; (repeat (first | simp (maxSteps := 2000000) (disch := omega) only [go_sem, ↓reduceIte] | with_reducible refine vIf_t ?_ | with_reducible refine vIf_f ?_)))
      (refine retK_of ?_; (repeat (first | simp (maxSteps := 2000000) (disch := omega) only [go_sem, ↓reduceIte] | with_reducible refine vIf_t ?_ | with_reducible refine vIf_f ?_)))
      try simp
theorem erase_take (xs : List Pc) (k j : Nat) (hj : j < xs.length) : (xs.take (j + 1)).eraseIdx k = if j = k then (xs.take j).eraseIdx k else (xs.take j).eraseIdx k ++ [gPc xs j] := by
  have hl : (xs.take j).length = j := by simp; omega
  rw [gPc_take_succ xs j hj]
  by_cases h : j < k
  · rw [if_neg (by omega), List.eraseIdx_of_length_le (by simp; omega), List.eraseIdx_of_length_le (by omega)]
  · by_cases e : j = k
    · subst e
      rw [if_pos rfl, List.eraseIdx_append_of_length_le (by omega), hl, Nat.sub_self, show (xs.take j).eraseIdx j = xs.take j from List.eraseIdx_of_length_le (by omega)]
      simp
    · rw [if_neg e, List.eraseIdx_append_of_lt_length (by omega)]
set_option maxRecDepth 20000 in
set_option maxHeartbeats 1000000 in
theorem joinPS_ok (ds : List Pc) (id other : Int) (hl : ds.length ≤ 1000000) : ACalls Tryz.prog 11 [.sl ds.length (cPc ds), I id, I other] [] (fun r ob => r = .tup [.sl (joL ds id other).length (cPc (joL ds id other)), I (joC ds id other)] ∧ ob = []) := by
  refine ACalls.leT (Q := fun r ob => (r = .tup [.sl (joL ds id other).length (cPc (joL ds id other)), I (joC ds id other)] ∧ ob = []) ∨ (r = .tup [nilS, I (joC ds id other)] ∧ joL ds id other = [] ∧ ob = [])) ?_ ?_
  rotate_left
  · intro r o hq
    rcases hq with ⟨rfl, rfl⟩ | ⟨rfl, h, rfl⟩
    · exact ⟨_, leR_refl _, rfl, rfl⟩
    · rw [h]; exact ⟨_, leR_nil2 _, rfl, rfl⟩
  refine ACalls.of_vc Tryz.func11 rfl (by decide) 108 rfl [.tmp 6, .tmp 7] rfl (by simp) ?_
  have hc := l19Ok_ok ds (by omega)
  have hid := l19Id_ok id
  have hid2 := l19Id_ok other
  cases hok : okP ds with
  | false =>
    rw [hok] at hc
    have ec : joC ds id other = 1 := by simp [joC, hok]
    rw [joL, if_neg (by omega), ec]
    (repeat (first | simp (maxSteps := 2000000) (disch := omega) only [go_sem, ↓reduceIte] | with_reducible refine vIf_t ?_ | with_reducible refine vIf_f ?_))
    (refine vCallX_of ?_; (repeat (first | simp (maxSteps := 2000000) (disch := omega) only [go_sem, ↓reduceIte] | with_reducible refine vIf_t ?_ | with_reducible refine vIf_f ?_)); refine vCall_eq (hc) (by simp (disch := omega) only [go_sem]) rfl (by first | exact Or.inl rfl | exact Or.inr ⟨rfl, rfl⟩ | (apply Or.inr; simp only [go_sem])) ?_; (repeat (first | simp (maxSteps := 2000000) (disch := omega) only [go_sem, ↓reduceIte] | with_reducible refine vIf_t ?_ | with_reducible refine vIf_f ?_)))
    (refine retK_of ?_; (repeat (first | simp (maxSteps := 2000000) (disch := omega) only [go_sem, ↓reduceIte] | with_reducible refine vIf_t ?_ | with_reducible refine vIf_f ?_)))
    try simp
  | true =>
    rw [hok] at hc
    have h60 := (okP_all hok).1
    have no2 : ¬ ((1 ≤ id ∧ id ≤ 9999) ∧ (1 ≤ other ∧ other ≤ 9999)) → joC ds id other = 2 := fun h => by rw [joC, if_pos hok, if_neg h]
    have hp := l19Find_ok ds id (by omega)
    have hp2 := l19Find_ok ds other (by omega)
    (repeat (first | simp (maxSteps := 2000000) (disch := omega) only [go_sem, ↓reduceIte] | with_reducible refine vIf_t ?_ | with_reducible refine vIf_f ?_))
    (refine vCallX_of ?_; (repeat (first | simp (maxSteps := 2000000) (disch := omega) only [go_sem, ↓reduceIte] | with_reducible refine vIf_t ?_ | with_reducible refine vIf_f ?_)); refine vCall_eq (hc) (by simp (disch := omega) only [go_sem]) rfl (by first | exact Or.inl rfl | exact Or.inr ⟨rfl, rfl⟩ | (apply Or.inr; simp only [go_sem])) ?_; (repeat (first | simp (maxSteps := 2000000) (disch := omega) only [go_sem, ↓reduceIte] | with_reducible refine vIf_t ?_ | with_reducible refine vIf_f ?_)))
    by_cases hd1 : 1 ≤ id ∧ id ≤ 9999
    · rw [decide_eq_true hd1] at hid
      (refine vCallX_of ?_; (repeat (first | simp (maxSteps := 2000000) (disch := omega) only [go_sem, ↓reduceIte] | with_reducible refine vIf_t ?_ | with_reducible refine vIf_f ?_)); refine vCall_eq (hid) (by simp (disch := omega) only [go_sem]) rfl (by first | exact Or.inl rfl | exact Or.inr ⟨rfl, rfl⟩ | (apply Or.inr; simp only [go_sem])) ?_; (repeat (first | simp (maxSteps := 2000000) (disch := omega) only [go_sem, ↓reduceIte] | with_reducible refine vIf_t ?_ | with_reducible refine vIf_f ?_)))
      by_cases hd2 : 1 ≤ other ∧ other ≤ 9999
      · have hd : (1 ≤ id ∧ id ≤ 9999) ∧ (1 ≤ other ∧ other ≤ 9999) := ⟨hd1, hd2⟩
        rw [decide_eq_true hd2] at hid2
        (refine vCallX_of ?_; (repeat (first | simp (maxSteps := 2000000) (disch := omega) only [go_sem, ↓reduceIte] | with_reducible refine vIf_t ?_ | with_reducible refine vIf_f ?_)); refine vCall_eq (hid2) (by simp (disch := omega) only [go_sem]) rfl (by first | exact Or.inl rfl | exact Or.inr ⟨rfl, rfl⟩ | (apply Or.inr; simp only [go_sem])) ?_; (repeat (first | simp (maxSteps := 2000000) (disch := omega) only [go_sem, ↓reduceIte] | with_reducible refine vIf_t ?_ | with_reducible refine vIf_f ?_)))
        (refine vCallX_of ?_; (repeat (first | simp (maxSteps := 2000000) (disch := omega) only [go_sem, ↓reduceIte] | with_reducible refine vIf_t ?_ | with_reducible refine vIf_f ?_)); refine vCall_eq (hp) (by simp (disch := omega) only [go_sem]) rfl (by first | exact Or.inl rfl | exact Or.inr ⟨rfl, rfl⟩ | (apply Or.inr; simp only [go_sem])) ?_; (repeat (first | simp (maxSteps := 2000000) (disch := omega) only [go_sem, ↓reduceIte] | with_reducible refine vIf_t ?_ | with_reducible refine vIf_f ?_)))
        (refine vCallX_of ?_; (repeat (first | simp (maxSteps := 2000000) (disch := omega) only [go_sem, ↓reduceIte] | with_reducible refine vIf_t ?_ | with_reducible refine vIf_f ?_)); refine vCall_eq (hp2) (by simp (disch := omega) only [go_sem]) rfl (by first | exact Or.inl rfl | exact Or.inr ⟨rfl, rfl⟩ | (apply Or.inr; simp only [go_sem])) ?_; (repeat (first | simp (maxSteps := 2000000) (disch := omega) only [go_sem, ↓reduceIte] | with_reducible refine vIf_t ?_ | with_reducible refine vIf_f ?_)))
        by_cases h0 : 0 ≤ pwI ds id
        · have d0 : decide (pwI ds id < 0) = false := decide_eq_false (by omega)
          by_cases h2 : 0 ≤ pwI ds other
          · have d2 : decide (pwI ds other < 0) = false := decide_eq_false (by omega)
            obtain ⟨q1, q2⟩ := pa_pw hok h0
            obtain ⟨q3, q4⟩ := pa_pw hok h2
            generalize paN ds id = i at *
            generalize paN ds other = k at *
            have e1 : (pwI ds id).toNat = i := by rw [q2]; rfl
            have e2 : (pwI ds other).toNat = k := by rw [q4]; rfl
            have hpi := (pcB_iff _).1 (okP_pc hok _ (gPc_mem ds i q1))
            have hpk := (pcB_iff _).1 (okP_pc hok _ (gPc_mem ds k q3))
            have eC : joC ds id other = if i = k ∨ (gPc ds i).owner ≠ (gPc ds k).owner ∨ (gPc ds i).cls ≠ (gPc ds k).cls then 6 else if 10000000 < (gPc ds i).area + (gPc ds k).area then 5 else 0 := by
              rw [joC, if_pos hok, if_pos hd, if_neg (by omega), e1, e2, q2, q4]
              simp only [Int.natCast_inj]
            (try (repeat (first | simp (maxSteps := 2000000) (disch := omega) only [go_sem, ↓reduceIte, d0, d2] | with_reducible refine vIf_t ?_ | with_reducible refine vIf_f ?_)))
            (refine vDraw_sch 27 ([(0, false), (1, false), (2, false), (3, false), (4, false), (5, false), (6, false), (7, false), (8, false), (9, false), (10, false), (11, false), (12, false), (13, false), (14, false), (15, false), (16, false), (17, false), (18, false), (19, false)] ++ [(20, false), (21, false), (22, false), (23, false), (24, false), (25, false), (26, false)]) mixed (by kernel_rfl) ?_; simp only [List.cons_append, List.nil_append, List.map_cons, List.map_nil, nthO_zero, nthO_succ, List.drop_succ_cons, List.drop_zero, List.drop_nil]; (repeat (first | simp (maxSteps := 2000000) (disch := omega) only [go_sem, ↓reduceIte] | with_reducible refine vIf_t ?_ | with_reducible refine vIf_f ?_)))
            by_cases hik : i = k
            · have d3 : (pwI ds id == pwI ds other) = true := by rw [beq_iff_eq]; omega
              rw [if_pos (.inl hik)] at eC
              rw [joL, if_neg (by omega), eC]
              (try (repeat (first | simp (maxSteps := 2000000) (disch := omega) only [go_sem, ↓reduceIte, d3] | with_reducible refine vIf_t ?_ | with_reducible refine vIf_f ?_)))
              (refine retK_of ?_; (repeat (first | simp (maxSteps := 2000000) (disch := omega) only [go_sem, ↓reduceIte] | with_reducible refine vIf_t ?_ | with_reducible refine vIf_f ?_)))
              try simp
            have d3 : (pwI ds id == pwI ds other) = false := by rw [beq_eq_false_iff_ne]; omega
            by_cases ho : (gPc ds i).owner = (gPc ds k).owner
            · have d4 : ((gPc ds i).owner != (gPc ds k).owner) = false := by rw [bne_eq_false_iff_eq]; exact ho
              by_cases hcl2 : (gPc ds i).cls = (gPc ds k).cls
              · have d5 : ((gPc ds i).cls != (gPc ds k).cls) = false := by rw [bne_eq_false_iff_eq]; exact hcl2
                rw [if_neg (by rintro (g | g | g); exact hik g; exact g ho; exact g hcl2)] at eC
                (try (repeat (first | simp (maxSteps := 2000000) (disch := omega) only [go_sem, ↓reduceIte, d3, e1, e2, d4, d5] | with_reducible refine vIf_t ?_ | with_reducible refine vIf_f ?_)))
                (refine vDraw_sch 10 [(0, false), (1, false), (2, false), (3, false), (5, false), (6, false), (7, false), (8, false), (4, false), (9, true)] mixed (by kernel_rfl) ?_; simp only [List.cons_append, List.nil_append, List.map_cons, List.map_nil, nthO_zero, nthO_succ, List.drop_succ_cons, List.drop_zero, List.drop_nil]; (repeat (first | simp (maxSteps := 2000000) (disch := omega) only [go_sem, ↓reduceIte] | with_reducible refine vIf_t ?_ | with_reducible refine vIf_f ?_)))
                by_cases hs : 10000000 < (gPc ds i).area + (gPc ds k).area
                · have d6 : decide (10000000 < (gPc ds i).area + (gPc ds k).area) = true := decide_eq_true hs
                  rw [if_pos hs] at eC
                  rw [joL, if_neg (by omega), eC]
                  (try (repeat (first | simp (maxSteps := 2000000) (disch := omega) only [go_sem, ↓reduceIte, e1, e2, d6] | with_reducible refine vIf_t ?_ | with_reducible refine vIf_f ?_)))
                  (refine retK_of ?_; (repeat (first | simp (maxSteps := 2000000) (disch := omega) only [go_sem, ↓reduceIte] | with_reducible refine vIf_t ?_ | with_reducible refine vIf_f ?_)))
                  try simp
                · have d6 : decide (10000000 < (gPc ds i).area + (gPc ds k).area) = false := decide_eq_false hs
                  rw [if_neg hs] at eC
                  rw [joL, if_pos eC, eC, e1, e2]
                  have hxl : (ds.set i ⟨(gPc ds i).id, (gPc ds i).owner, (gPc ds i).area + (gPc ds k).area, (gPc ds i).cls⟩).length = ds.length := by simp
                  have hxi : gPc (ds.set i ⟨(gPc ds i).id, (gPc ds i).owner, (gPc ds i).area + (gPc ds k).area, (gPc ds i).cls⟩) i = ⟨(gPc ds i).id, (gPc ds i).owner, (gPc ds i).area + (gPc ds k).area, (gPc ds i).cls⟩ := gPc_set_same _ _ _ q1
                  have hxj : ∀ j, j ≠ i → gPc (ds.set i ⟨(gPc ds i).id, (gPc ds i).owner, (gPc ds i).area + (gPc ds k).area, (gPc ds i).cls⟩) j = gPc ds j := fun j hj => gPc_set_ne _ _ _ _ (fun e => hj e.symm)
                  have hjv : joV ds i k = (ds.set i ⟨(gPc ds i).id, (gPc ds i).owner, (gPc ds i).area + (gPc ds k).area, (gPc ds i).cls⟩).eraseIdx k := rfl
                  rw [hjv]
                  generalize ds.set i ⟨(gPc ds i).id, (gPc ds i).owner, (gPc ds i).area + (gPc ds k).area, (gPc ds i).cls⟩ = xs at *
                  have hel : ∀ j, j ≤ xs.length → ((xs.take j).eraseIdx k).length ≤ j := fun j hj => by
                    have := List.length_eraseIdx_le (xs.take j) k
                    simp at this ⊢; omega
                  (try (repeat (first | simp (maxSteps := 2000000) (disch := omega) only [go_sem, ↓reduceIte, e1, e2, d6] | with_reducible refine vIf_t ?_ | with_reducible refine vIf_f ?_)))
                  refine vcLoop_invF (fun j : Nat => j ≤ ds.length) (fun j => ⟨108, 0, [(11, I j), (10, .ref 0 0 ((xs.take j).eraseIdx k).length), (9, I (pwI ds other)), (0, .sl ds.length (cPc ds)), (8, I (pwI ds id))], [oP ((xs.take j).eraseIdx k)]⟩) (fun j => ds.length - j) 0 (by omega) (by simp only [List.take_zero, List.eraseIdx_nil]; (first | (refine leF_s ?_; ((repeat (first | simp (maxSteps := 2000000) (disch := omega) only [go_sem, ↓reduceIte] | with_reducible refine vIf_t ?_ | with_reducible refine vIf_f ?_)); all_goals (try simp); all_goals (try omega)); done) | (refine leF_p ?_; ((repeat (first | simp (maxSteps := 2000000) (disch := omega) only [go_sem, ↓reduceIte] | with_reducible refine vIf_t ?_ | with_reducible refine vIf_f ?_)); all_goals (try simp); all_goals (try omega)); done))) ?_
                  intro j hj
                  have hej := hel j (by omega)
                  (repeat (first | simp (maxSteps := 2000000) (disch := omega) only [go_sem, ↓reduceIte] | with_reducible refine vIf_t ?_ | with_reducible refine vIf_f ?_))
                  refine vIf_dec (fun h5 => ?_) (fun h5 => ?_)
                  · have hjl : j < ds.length := by omega
                    have et := erase_take xs k j (by omega)
                    generalize (xs.take j).eraseIdx k = acc at *
                    (repeat (first | simp (maxSteps := 2000000) (disch := omega) only [go_sem, ↓reduceIte] | with_reducible refine vIf_t ?_ | with_reducible refine vIf_f ?_))
                    by_cases hji : j = i
                    · have f1 : ((j : Int) == pwI ds id) = true := by rw [beq_iff_eq]; omega
                      have f2 : ((j : Int) != pwI ds other) = true := by rw [bne_iff_ne]; omega
                      rw [if_neg (by omega), hji, hxi] at et
                      subst hji
                      (try (repeat (first | simp (maxSteps := 2000000) (disch := omega) only [go_sem, ↓reduceIte, f1] | with_reducible refine vIf_t ?_ | with_reducible refine vIf_f ?_)))
                      (refine vDraw_sch 7 [(0, false), (2, false), (3, false), (4, false), (5, false), (1, false), (6, true)] mixed (by kernel_rfl) ?_; simp only [List.cons_append, List.nil_append, List.map_cons, List.map_nil, nthO_zero, nthO_succ, List.drop_succ_cons, List.drop_zero, List.drop_nil]; (repeat (first | simp (maxSteps := 2000000) (disch := omega) only [go_sem, ↓reduceIte] | with_reducible refine vIf_t ?_ | with_reducible refine vIf_f ?_)))
                      (try (repeat (first | simp (maxSteps := 2000000) (disch := omega) only [go_sem, ↓reduceIte, e2, f2] | with_reducible refine vIf_t ?_ | with_reducible refine vIf_f ?_)))
                      refine againF (j + 1) (by omega) (by omega) ?_
                      rw [et]
                      (first | (refine leF_s ?_; ((repeat (first | simp (maxSteps := 2000000) (disch := omega) only [go_sem, ↓reduceIte] | with_reducible refine vIf_t ?_ | with_reducible refine vIf_f ?_)); all_goals (try simp); all_goals (try omega)); done) | (refine leF_p ?_; ((repeat (first | simp (maxSteps := 2000000) (disch := omega) only [go_sem, ↓reduceIte] | with_reducible refine vIf_t ?_ | with_reducible refine vIf_f ?_)); all_goals (try simp); all_goals (try omega)); done))
                    · have f1 : ((j : Int) == pwI ds id) = false := by rw [beq_eq_false_iff_ne]; omega
                      by_cases hjk : j = k
                      · have f2 : ((j : Int) != pwI ds other) = false := by rw [bne_eq_false_iff_eq]; omega
                        rw [if_pos hjk] at et
                        (try (repeat (first | simp (maxSteps := 2000000) (disch := omega) only [go_sem, ↓reduceIte, f1, f2] | with_reducible refine vIf_t ?_ | with_reducible refine vIf_f ?_)))
                        refine againF (j + 1) (by omega) (by omega) ?_
                        rw [et]
                        (first | (refine leF_s ?_; ((repeat (first | simp (maxSteps := 2000000) (disch := omega) only [go_sem, ↓reduceIte] | with_reducible refine vIf_t ?_ | with_reducible refine vIf_f ?_)); all_goals (try simp); all_goals (try omega)); done) | (refine leF_p ?_; ((repeat (first | simp (maxSteps := 2000000) (disch := omega) only [go_sem, ↓reduceIte] | with_reducible refine vIf_t ?_ | with_reducible refine vIf_f ?_)); all_goals (try simp); all_goals (try omega)); done))
                      · have f2 : ((j : Int) != pwI ds other) = true := by rw [bne_iff_ne]; omega
                        rw [if_neg hjk, hxj j hji] at et
                        (try (repeat (first | simp (maxSteps := 2000000) (disch := omega) only [go_sem, ↓reduceIte, f1, f2] | with_reducible refine vIf_t ?_ | with_reducible refine vIf_f ?_)))
                        refine againF (j + 1) (by omega) (by omega) ?_
                        rw [et]
                        (first | (refine leF_s ?_; ((repeat (first | simp (maxSteps := 2000000) (disch := omega) only [go_sem, ↓reduceIte] | with_reducible refine vIf_t ?_ | with_reducible refine vIf_f ?_)); all_goals (try simp); all_goals (try omega)); done) | (refine leF_p ?_; ((repeat (first | simp (maxSteps := 2000000) (disch := omega) only [go_sem, ↓reduceIte] | with_reducible refine vIf_t ?_ | with_reducible refine vIf_f ?_)); all_goals (try simp); all_goals (try omega)); done))
                  · rw [List.take_of_length_le (by omega)] at *
                    (repeat (first | simp (maxSteps := 2000000) (disch := omega) only [go_sem, ↓reduceIte] | with_reducible refine vIf_t ?_ | with_reducible refine vIf_f ?_))
                    refine retK_frz (.step 0 ⟨4, cPc (xs.eraseIdx k)⟩ rfl (by (repeat (first | simp (maxSteps := 2000000) (disch := omega) only [go_sem, ↓reduceIte] | with_reducible refine vIf_t ?_ | with_reducible refine vIf_f ?_))) (.refl _)) ?_
                    (repeat (first | simp (maxSteps := 2000000) (disch := omega) only [go_sem, ↓reduceIte] | with_reducible refine vIf_t ?_ | with_reducible refine vIf_f ?_))
                    simp
              · have d5 : ((gPc ds i).cls != (gPc ds k).cls) = true := by rw [bne_iff_ne]; exact hcl2
                rw [if_pos (.inr (.inr hcl2))] at eC
                rw [joL, if_neg (by omega), eC]
                (try (repeat (first | simp (maxSteps := 2000000) (disch := omega) only [go_sem, ↓reduceIte, d3, e1, e2, d4, d5] | with_reducible refine vIf_t ?_ | with_reducible refine vIf_f ?_)))
                (refine retK_of ?_; (repeat (first | simp (maxSteps := 2000000) (disch := omega) only [go_sem, ↓reduceIte] | with_reducible refine vIf_t ?_ | with_reducible refine vIf_f ?_)))
                try simp
            · have d4 : ((gPc ds i).owner != (gPc ds k).owner) = true := by rw [bne_iff_ne]; exact ho
              rw [if_pos (.inr (.inl ho))] at eC
              rw [joL, if_neg (by omega), eC]
              (try (repeat (first | simp (maxSteps := 2000000) (disch := omega) only [go_sem, ↓reduceIte, d3, e1, e2, d4] | with_reducible refine vIf_t ?_ | with_reducible refine vIf_f ?_)))
              (refine retK_of ?_; (repeat (first | simp (maxSteps := 2000000) (disch := omega) only [go_sem, ↓reduceIte] | with_reducible refine vIf_t ?_ | with_reducible refine vIf_f ?_)))
              try simp
          · have d2 : decide (pwI ds other < 0) = true := decide_eq_true (by omega)
            have ec : joC ds id other = 3 := by rw [joC, if_pos hok, if_pos hd, if_pos (by omega)]
            rw [joL, if_neg (by omega), ec]
            (try (repeat (first | simp (maxSteps := 2000000) (disch := omega) only [go_sem, ↓reduceIte, d0, d2] | with_reducible refine vIf_t ?_ | with_reducible refine vIf_f ?_)))
            (refine retK_of ?_; (repeat (first | simp (maxSteps := 2000000) (disch := omega) only [go_sem, ↓reduceIte] | with_reducible refine vIf_t ?_ | with_reducible refine vIf_f ?_)))
            try simp
        · have d0 : decide (pwI ds id < 0) = true := decide_eq_true (by omega)
          have ec : joC ds id other = 3 := by rw [joC, if_pos hok, if_pos hd, if_pos (by omega)]
          rw [joL, if_neg (by omega), ec]
          (try (repeat (first | simp (maxSteps := 2000000) (disch := omega) only [go_sem, ↓reduceIte, d0] | with_reducible refine vIf_t ?_ | with_reducible refine vIf_f ?_)))
          (refine retK_of ?_; (repeat (first | simp (maxSteps := 2000000) (disch := omega) only [go_sem, ↓reduceIte] | with_reducible refine vIf_t ?_ | with_reducible refine vIf_f ?_)))
          try simp
      · rw [decide_eq_false hd2] at hid2
        have ec := no2 (fun g => hd2 g.2)
        rw [joL, if_neg (by omega), ec]
        (refine vCallX_of ?_; (repeat (first | simp (maxSteps := 2000000) (disch := omega) only [go_sem, ↓reduceIte] | with_reducible refine vIf_t ?_ | with_reducible refine vIf_f ?_)); refine vCall_eq (hid2) (by simp (disch := omega) only [go_sem]) rfl (by first | exact Or.inl rfl | exact Or.inr ⟨rfl, rfl⟩ | (apply Or.inr; simp only [go_sem])) ?_; (repeat (first | simp (maxSteps := 2000000) (disch := omega) only [go_sem, ↓reduceIte] | with_reducible refine vIf_t ?_ | with_reducible refine vIf_f ?_)))
        (refine retK_of ?_; (repeat (first | simp (maxSteps := 2000000) (disch := omega) only [go_sem, ↓reduceIte] | with_reducible refine vIf_t ?_ | with_reducible refine vIf_f ?_)))
        try simp
    · rw [decide_eq_false hd1] at hid
      have ec := no2 (fun g => hd1 g.1)
      rw [joL, if_neg (by omega), ec]
      (refine vCallX_of ?_; (repeat (first | simp (maxSteps := 2000000) (disch := omega) only [go_sem, ↓reduceIte] | with_reducible refine vIf_t ?_ | with_reducible refine vIf_f ?_)); refine vCall_eq (hid) (by simp (disch := omega) only [go_sem]) rfl (by first | exact Or.inl rfl | exact Or.inr ⟨rfl, rfl⟩ | (apply Or.inr; simp only [go_sem])) ?_; (repeat (first | simp (maxSteps := 2000000) (disch := omega) only [go_sem, ↓reduceIte] | with_reducible refine vIf_t ?_ | with_reducible refine vIf_f ?_)))
      (refine retK_of ?_; (repeat (first | simp (maxSteps := 2000000) (disch := omega) only [go_sem, ↓reduceIte] | with_reducible refine vIf_t ?_ | with_reducible refine vIf_f ?_)))
      try simp
end Go.Proofs.YtbbdfifpncjpnaaGreatDoor

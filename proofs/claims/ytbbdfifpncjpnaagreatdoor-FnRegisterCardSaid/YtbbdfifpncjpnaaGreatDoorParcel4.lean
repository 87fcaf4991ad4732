/- parcels: areas of owners and classes -/
import Derived.Test.YtbbdfifpncjpnaaGreatDoorParcel3
set_option linter.unusedVariables false
set_option linter.unusedSimpArgs false
namespace Go.Proofs.YtbbdfifpncjpnaaGreatDoor
open Go.AG

theorem okP_all {ds : List Pc} (h : okP ds = true) : ds.length ≤ 60 ∧ (∀ p ∈ ds, (1 ≤ p.id ∧ p.id ≤ 9999) ∧ (0 ≤ p.owner ∧ p.owner ≤ 39) ∧ (1 ≤ p.area ∧ p.area ≤ 10000000) ∧ (0 ≤ p.cls ∧ p.cls ≤ 3)) ∧
    ∀ j, j < ds.length → 0 < j → (gPc ds (j - 1)).id < (gPc ds j).id := by
  simp only [okP, Bool.and_eq_true, decide_eq_true_eq, List.all_eq_true] at h
  refine ⟨h.2.1, fun p hp => ?_, of_decide_eq_true h.1⟩
  have := h.2.2 p hp
  simp only [pcB, Bool.and_eq_true, decide_eq_true_eq] at this
  omega
theorem okP_id {ds : List Pc} (h : okP ds = true) : ∀ i j, i < j → j < ds.length → (gPc ds i).id < (gPc ds j).id := by
  obtain ⟨_, _, h3⟩ := okP_all h
  intro i j hij
  induction j with
  | zero => omega
  | succ j ih =>
    intro hj
    have h4 := h3 (j + 1) hj (by omega)
    simp only [Nat.add_sub_cancel] at h4
    by_cases e : i = j
    · subst e; exact h4
    · have := ih (by omega) (by omega); omega
def arO (ds : List Pc) : List Int := acc Pc.owner Pc.area 40 ds
def arC (ds : List Pc) : List Int := acc Pc.cls Pc.area 4 ds
theorem acc_take {α : Type} (key val : α → Int) (n : Nat) (ds : List α) (k : Nat) (h : k < ds.length) : acc key val n (ds.take (k + 1)) = (acc key val n (ds.take k)).set (key ds[k]).toNat (IntKind.wrap .i64 (gi (acc key val n (ds.take k)) (key ds[k]).toNat + val ds[k])) := by
  rw [List.take_succ_eq_append_getElem h, acc_snoc]
theorem arO_len (ds : List Pc) : (arO ds).length = 40 := acc_len _ _ _ _
theorem arC_len (ds : List Pc) : (arC ds).length = 4 := acc_len _ _ _ _
theorem arO_take (ds : List Pc) (k : Nat) (h : k < ds.length) (hn : (gPc ds k).owner.toNat < 40) : arO (ds.take (k + 1)) = wr (arO (ds.take k)) (gPc ds k).owner.toNat [IntKind.wrap .i64 (gi (arO (ds.take k)) (gPc ds k).owner.toNat + (gPc ds k).area)] := by
  have he := acc_take Pc.owner Pc.area 40 ds k h
  rw [← gPc_lt ds k h] at he
  rw [wr_set _ _ _ (by rw [arO_len]; exact hn)]
  exact he
theorem arC_take (ds : List Pc) (k : Nat) (h : k < ds.length) (hn : (gPc ds k).cls.toNat < 4) : arC (ds.take (k + 1)) = wr (arC (ds.take k)) (gPc ds k).cls.toNat [IntKind.wrap .i64 (gi (arC (ds.take k)) (gPc ds k).cls.toNat + (gPc ds k).area)] := by
  have he := acc_take Pc.cls Pc.area 4 ds k h
  rw [← gPc_lt ds k h] at he
  rw [wr_set _ _ _ (by rw [arC_len]; exact hn)]
  exact he
set_option maxHeartbeats 4000000 in
theorem areasO_ok (ds : List Pc) (hok : okP ds = true) : ACalls Tryz.prog 87 [.sl ds.length (cPc ds)] [] (fun r o => r = .ref 0 0 40 ∧ o = [oI (arO ds)]) := by
  refine ACalls.of_vc Tryz.func87 rfl (by decide) 24 rfl [.tmp 2] rfl (by simp) ?_
  obtain ⟨hl, hall, _⟩ := okP_all hok
  (repeat (first | simp (maxSteps := 2000000) (disch := omega) only [go_sem, ↓reduceIte] | with_reducible refine vIf_t ?_ | with_reducible refine vIf_f ?_))
  refine vcLoop_invF (fun k : Nat => k ≤ ds.length) (fun k => ⟨24, 0, [(9, I k), (8, I ds.length), (7, .sl ds.length (cPc ds)), (3, .ref 0 0 40)], [oI (arO (ds.take k))]⟩) (fun k => ds.length - k) 0 (by omega) (by refine leF_s ?_; (repeat (first | simp (maxSteps := 2000000) (disch := omega) only [go_sem, ↓reduceIte, List.take_zero, arO, acc_nil] | with_reducible refine vIf_t ?_ | with_reducible refine vIf_f ?_))) ?_
  intro k hk
  have hlen := arO_len (ds.take k)
  (repeat (first | simp (maxSteps := 2000000) (disch := omega) only [go_sem, ↓reduceIte] | with_reducible refine vIf_t ?_ | with_reducible refine vIf_f ?_))
  refine vIf_dec (fun h => ?_) (fun h => ?_)
  · have hkl : k < ds.length := by omega
    have o1 := (hall _ (gPc_mem ds k hkl)).2.1
    have hn : (gPc ds k).owner.toNat < 40 := by omega
    have he := arO_take ds k hkl hn
    (repeat (first | simp (maxSteps := 2000000) (disch := omega) only [go_sem, ↓reduceIte] | with_reducible refine vIf_t ?_ | with_reducible refine vIf_f ?_))
    (refine vDraw_sch 7 [(0, false), (1, false), (2, false), (3, false), (4, false), (5, false), (6, false)] mixed (by kernel_rfl) ?_; simp only [List.cons_append, List.nil_append, List.map_cons, List.map_nil, nthO_zero, nthO_succ, List.drop_succ_cons, List.drop_zero, List.drop_nil]; (repeat (first | simp (maxSteps := 2000000) (disch := omega) only [go_sem, ↓reduceIte] | with_reducible refine vIf_t ?_ | with_reducible refine vIf_f ?_)))
    (try (repeat (first | simp (maxSteps := 2000000) (disch := omega) only [go_sem, ↓reduceIte, hlen] | with_reducible refine vIf_t ?_ | with_reducible refine vIf_f ?_)))
    refine againF (k + 1) (by omega) (by omega) ?_
    rw [he]
    (first | (refine leF_s ?_; ((repeat (first | simp (maxSteps := 2000000) (disch := omega) only [go_sem, ↓reduceIte] | with_reducible refine vIf_t ?_ | with_reducible refine vIf_f ?_)); all_goals (try simp); all_goals (try omega)); done) | (refine leF_p ?_; ((repeat (first | simp (maxSteps := 2000000) (disch := omega) only [go_sem, ↓reduceIte] | with_reducible refine vIf_t ?_ | with_reducible refine vIf_f ?_)); all_goals (try simp); all_goals (try omega)); done))
  · rw [List.take_of_length_le (by omega)]
    (repeat (first | simp (maxSteps := 2000000) (disch := omega) only [go_sem, ↓reduceIte] | with_reducible refine vIf_t ?_ | with_reducible refine vIf_f ?_))
    (refine retK_of ?_; (repeat (first | simp (maxSteps := 2000000) (disch := omega) only [go_sem, ↓reduceIte] | with_reducible refine vIf_t ?_ | with_reducible refine vIf_f ?_)))
theorem areasOO_ok (ds : List Pc) (hl : ds.length ≤ 10000000) : ACalls Tryz.prog 31 [.sl ds.length (cPc ds)] []
    (fun r o => if okP ds = true then r = .tup [.ref 0 0 40, I 0] ∧ o = [oI (arO ds)] else r = .tup [.ref 0 0 0, I 1] ∧ o = [oI []]) := by
  refine ACalls.of_vc Tryz.func31 rfl (by decide) 13 rfl [.tmp 2, .tmp 3] rfl (by simp) ?_
  have hc := pcCode0_ok ds hl
  (repeat (first | simp (maxSteps := 2000000) (disch := omega) only [go_sem, ↓reduceIte] | with_reducible refine vIf_t ?_ | with_reducible refine vIf_f ?_))
  cases hok : okP ds with
  | false =>
    simp only [hok, Bool.false_eq_true, if_false] at hc
    (refine vCallX_of ?_; (repeat (first | simp (maxSteps := 2000000) (disch := omega) only [go_sem, ↓reduceIte] | with_reducible refine vIf_t ?_ | with_reducible refine vIf_f ?_)); refine vCall_eq (hc) (by simp (disch := omega) only [go_sem]) rfl (by first | exact Or.inl rfl | exact Or.inr ⟨rfl, rfl⟩ | (apply Or.inr; simp only [go_sem])) ?_; (repeat (first | simp (maxSteps := 2000000) (disch := omega) only [go_sem, ↓reduceIte] | with_reducible refine vIf_t ?_ | with_reducible refine vIf_f ?_)))
    (refine retK_of ?_; (repeat (first | simp (maxSteps := 2000000) (disch := omega) only [go_sem, ↓reduceIte] | with_reducible refine vIf_t ?_ | with_reducible refine vIf_f ?_)))
  | true =>
    simp only [hok, if_true] at hc
    (refine vCallX_of ?_; (repeat (first | simp (maxSteps := 2000000) (disch := omega) only [go_sem, ↓reduceIte] | with_reducible refine vIf_t ?_ | with_reducible refine vIf_f ?_)); refine vCall_eq (hc) (by simp (disch := omega) only [go_sem]) rfl (by first | exact Or.inl rfl | exact Or.inr ⟨rfl, rfl⟩ | (apply Or.inr; simp only [go_sem])) ?_; (repeat (first | simp (maxSteps := 2000000) (disch := omega) only [go_sem, ↓reduceIte] | with_reducible refine vIf_t ?_ | with_reducible refine vIf_f ?_)))
    (refine vCallX_of ?_; (repeat (first | simp (maxSteps := 2000000) (disch := omega) only [go_sem, ↓reduceIte] | with_reducible refine vIf_t ?_ | with_reducible refine vIf_f ?_)); refine vCall_eq (areasO_ok ds hok) (by simp (disch := omega) only [go_sem]) rfl (by first | exact Or.inl rfl | exact Or.inr ⟨rfl, rfl⟩ | (apply Or.inr; simp only [go_sem])) ?_; (repeat (first | simp (maxSteps := 2000000) (disch := omega) only [go_sem, ↓reduceIte] | with_reducible refine vIf_t ?_ | with_reducible refine vIf_f ?_)))
    (refine retK_of ?_; (repeat (first | simp (maxSteps := 2000000) (disch := omega) only [go_sem, ↓reduceIte] | with_reducible refine vIf_t ?_ | with_reducible refine vIf_f ?_)))
set_option maxHeartbeats 4000000 in
theorem areasC_ok (ds : List Pc) (hl : ds.length ≤ 10000000) : ACalls Tryz.prog 29 [.sl ds.length (cPc ds)] []
    (fun r o => if okP ds = true then r = .tup [.ref 0 0 4, I 0] ∧ o = [oI (arC ds)] else r = .tup [.ref 0 0 0, I 1] ∧ o = [oI []]) := by
  refine ACalls.of_vc Tryz.func29 rfl (by decide) 32 rfl [.tmp 2, .tmp 3] rfl (by simp) ?_
  have hc := pcCode0_ok ds hl
  (repeat (first | simp (maxSteps := 2000000) (disch := omega) only [go_sem, ↓reduceIte] | with_reducible refine vIf_t ?_ | with_reducible refine vIf_f ?_))
  cases hok : okP ds with
  | false =>
    simp only [hok, Bool.false_eq_true, if_false] at hc
    (refine vCallX_of ?_; (repeat (first | simp (maxSteps := 2000000) (disch := omega) only [go_sem, ↓reduceIte] | with_reducible refine vIf_t ?_ | with_reducible refine vIf_f ?_)); refine vCall_eq (hc) (by simp (disch := omega) only [go_sem]) rfl (by first | exact Or.inl rfl | exact Or.inr ⟨rfl, rfl⟩ | (apply Or.inr; simp only [go_sem])) ?_; (repeat (first | simp (maxSteps := 2000000) (disch := omega) only [go_sem, ↓reduceIte] | with_reducible refine vIf_t ?_ | with_reducible refine vIf_f ?_)))
    (refine retK_of ?_; (repeat (first | simp (maxSteps := 2000000) (disch := omega) only [go_sem, ↓reduceIte] | with_reducible refine vIf_t ?_ | with_reducible refine vIf_f ?_)))
  | true =>
    obtain ⟨hl2, hall, _⟩ := okP_all hok
    simp only [hok, if_true] at hc
    (refine vCallX_of ?_; (repeat (first | simp (maxSteps := 2000000) (disch := omega) only [go_sem, ↓reduceIte] | with_reducible refine vIf_t ?_ | with_reducible refine vIf_f ?_)); refine vCall_eq (hc) (by simp (disch := omega) only [go_sem]) rfl (by first | exact Or.inl rfl | exact Or.inr ⟨rfl, rfl⟩ | (apply Or.inr; simp only [go_sem])) ?_; (repeat (first | simp (maxSteps := 2000000) (disch := omega) only [go_sem, ↓reduceIte] | with_reducible refine vIf_t ?_ | with_reducible refine vIf_f ?_)))
    refine vcLoop_invF (fun k : Nat => k ≤ ds.length) (fun k => ⟨32, 0, [(17, I k), (16, I ds.length), (15, .sl ds.length (cPc ds)), (5, .ref 0 0 4)], [oI (arC (ds.take k))]⟩) (fun k => ds.length - k) 0 (by omega) (by refine leF_s ?_; (repeat (first | simp (maxSteps := 2000000) (disch := omega) only [go_sem, ↓reduceIte, List.take_zero, arC, acc_nil] | with_reducible refine vIf_t ?_ | with_reducible refine vIf_f ?_))) ?_
    intro k hk
    have hlen := arC_len (ds.take k)
    (repeat (first | simp (maxSteps := 2000000) (disch := omega) only [go_sem, ↓reduceIte] | with_reducible refine vIf_t ?_ | with_reducible refine vIf_f ?_))
    refine vIf_dec (fun h => ?_) (fun h => ?_)
    · have hkl : k < ds.length := by omega
      have o1 := (hall _ (gPc_mem ds k hkl)).2.2.2
      have hn : (gPc ds k).cls.toNat < 4 := by omega
      have he := arC_take ds k hkl hn
      (repeat (first | simp (maxSteps := 2000000) (disch := omega) only [go_sem, ↓reduceIte] | with_reducible refine vIf_t ?_ | with_reducible refine vIf_f ?_))
      (refine vDraw_sch 7 [(0, false), (1, false), (2, false), (3, false), (4, false), (5, false), (6, false)] mixed (by kernel_rfl) ?_; simp only [List.cons_append, List.nil_append, List.map_cons, List.map_nil, nthO_zero, nthO_succ, List.drop_succ_cons, List.drop_zero, List.drop_nil]; (repeat (first | simp (maxSteps := 2000000) (disch := omega) only [go_sem, ↓reduceIte] | with_reducible refine vIf_t ?_ | with_reducible refine vIf_f ?_)))
      (try (repeat (first | simp (maxSteps := 2000000) (disch := omega) only [go_sem, ↓reduceIte, hlen] | with_reducible refine vIf_t ?_ | with_reducible refine vIf_f ?_)))
      refine againF (k + 1) (by omega) (by omega) ?_
      rw [he]
      (first | (refine leF_s ?_; ((repeat (first | simp (maxSteps := 2000000) (disch := omega) only [go_sem, ↓reduceIte] | with_reducible refine vIf_t ?_ | with_reducible refine vIf_f ?_)); all_goals (try simp); all_goals (try omega)); done) | (refine leF_p ?_; ((repeat (first | simp (maxSteps := 2000000) (disch := omega) only [go_sem, ↓reduceIte] | with_reducible refine vIf_t ?_ | with_reducible refine vIf_f ?_)); all_goals (try simp); all_goals (try omega)); done))
    · rw [List.take_of_length_le (by omega)]
      (repeat (first | simp (maxSteps := 2000000) (disch := omega) only [go_sem, ↓reduceIte] | with_reducible refine vIf_t ?_ | with_reducible refine vIf_f ?_))
      (refine retK_of ?_; (repeat (first | simp (maxSteps := 2000000) (disch := omega) only [go_sem, ↓reduceIte] | with_reducible refine vIf_t ?_ | with_reducible refine vIf_f ?_)))
end Go.Proofs.YtbbdfifpncjpnaaGreatDoor

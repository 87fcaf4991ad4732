/- parcels: an owner's area, a parcel's place -/
import Derived.Test.YtbbdfifpncjpnaaGreatDoorParcel5
set_option linter.unusedVariables false
set_option linter.unusedSimpArgs false
namespace Go.Proofs.YtbbdfifpncjpnaaGreatDoor
open Go.AG

theorem arO_val {ds : List Pc} (h : okP ds = true) (o : Nat) (ho : o < 40) : gi (arO ds) o = sumI ((ds.filter fun p => decide (p.owner = (o : Int))).map Pc.area) ∧ sumI (arO ds) = sumI (ds.map Pc.area) := by
  obtain ⟨h1, h2, _⟩ := okP_all h
  have := acc_val Pc.owner Pc.area 40 10000000 (by omega) ds (fun p hp => by have := (h2 p hp).2.1; omega) (fun p hp => by have := (h2 p hp).2.2.1; omega) (by omega)
  exact ⟨this.1 o ho, this.2⟩
theorem arC_val {ds : List Pc} (h : okP ds = true) : sumI (arC ds) = sumI (ds.map Pc.area) := by
  obtain ⟨h1, h2, _⟩ := okP_all h
  have := acc_val Pc.cls Pc.area 4 10000000 (by omega) ds (fun p hp => by have := (h2 p hp).2.2.2; omega) (fun p hp => by have := (h2 p hp).2.2.1; omega) (by omega)
  exact this.2
/-- an owner's area and the code -/
def aoV (ds : List Pc) (o : Int) : Int := if okP ds = true ∧ 0 ≤ o ∧ o ≤ 39 then gi (arO ds) o.toNat else 0
def aoC (ds : List Pc) (o : Int) : Int := if okP ds = true then if 0 ≤ o ∧ o ≤ 39 then 0 else 2 else 1
/-- the place of a parcel -/
def pwI (ds : List Pc) (id : Int) : Int := fsI (fun p => decide (p.id = id)) ds
def pwC (ds : List Pc) (id : Int) : Int := if okP ds = true then if 1 ≤ id ∧ id ≤ 9999 then if pwI ds id < 0 then 3 else 0 else 2 else 1
def pwV (ds : List Pc) (id : Int) : Int := if pwC ds id = 0 then pwI ds id else 0
theorem parcelAt_ok (ds : List Pc) (id : Int) (hl : ds.length ≤ 10000000) : ACalls Tryz.prog 62 [.sl ds.length (cPc ds), I id] []
    (fun r o => ∃ a : Nat, a ≤ ds.length ∧ (∀ j, j < a → (gPc ds j).id < id) ∧ (a < ds.length → id ≤ (gPc ds a).id) ∧ r = .tup [I a, B (decide (a < ds.length ∧ (gPc ds a).id = id))] ∧ o = []) := by
  refine ACalls.of_vc Tryz.func62 rfl (by decide) 36 rfl [.tmp 4, .tmp 5] rfl (by simp) ?_
  (repeat (first | simp (maxSteps := 2000000) (disch := omega) only [go_sem, ↓reduceIte] | with_reducible refine vIf_t ?_ | with_reducible refine vIf_f ?_))
  refine vcLoop_invF (fun k : Nat => k ≤ ds.length ∧ ∀ j, j < k → (gPc ds j).id < id) (fun k => ⟨36, 0, [(6, I k), (0, .sl ds.length (cPc ds)), (1, I id)], []⟩) (fun k => ds.length - k) 0 ⟨by omega, by omega⟩ (by (first | (refine leF_s ?_; ((repeat (first | simp (maxSteps := 2000000) (disch := omega) only [go_sem, ↓reduceIte] | with_reducible refine vIf_t ?_ | with_reducible refine vIf_f ?_)); all_goals (try simp); all_goals (try omega)); done) | (refine leF_p ?_; ((repeat (first | simp (maxSteps := 2000000) (disch := omega) only [go_sem, ↓reduceIte] | with_reducible refine vIf_t ?_ | with_reducible refine vIf_f ?_)); all_goals (try simp); all_goals (try omega)); done))) ?_
  intro k ⟨hk, hj⟩
  (repeat (first | simp (maxSteps := 2000000) (disch := omega) only [go_sem, ↓reduceIte] | with_reducible refine vIf_t ?_ | with_reducible refine vIf_f ?_))
  by_cases h : k < ds.length
  · have hb : decide ((k : Int) < (ds.length : Int)) = true := decide_eq_true (by omega)
    (try (repeat (first | simp (maxSteps := 2000000) (disch := omega) only [go_sem, ↓reduceIte, hb] | with_reducible refine vIf_t ?_ | with_reducible refine vIf_f ?_)))
    refine vIf_dec (fun h3 => ?_) (fun h3 => ?_)
    · (repeat (first | simp (maxSteps := 2000000) (disch := omega) only [go_sem, ↓reduceIte] | with_reducible refine vIf_t ?_ | with_reducible refine vIf_f ?_))
      refine againF (k + 1) ⟨by omega, fun j h4 => ?_⟩ (by omega) (by (first | (refine leF_s ?_; ((repeat (first | simp (maxSteps := 2000000) (disch := omega) only [go_sem, ↓reduceIte] | with_reducible refine vIf_t ?_ | with_reducible refine vIf_f ?_)); all_goals (try simp); all_goals (try omega)); done) | (refine leF_p ?_; ((repeat (first | simp (maxSteps := 2000000) (disch := omega) only [go_sem, ↓reduceIte] | with_reducible refine vIf_t ?_ | with_reducible refine vIf_f ?_)); all_goals (try simp); all_goals (try omega)); done)))
      by_cases e : j = k
      · subst e; exact h3
      · exact hj j (by omega)
    · (repeat (first | simp (maxSteps := 2000000) (disch := omega) only [go_sem, ↓reduceIte] | with_reducible refine vIf_t ?_ | with_reducible refine vIf_f ?_))
      (refine vDraw_sch 15 [(0, false), (1, false), (2, false), (3, false), (4, false), (5, false), (6, false), (7, false), (8, false), (9, false), (10, false), (11, false), (12, false), (13, false), (14, false)] mixed (by kernel_rfl) ?_; simp only [List.cons_append, List.nil_append, List.map_cons, List.map_nil, nthO_zero, nthO_succ, List.drop_succ_cons, List.drop_zero, List.drop_nil]; (repeat (first | simp (maxSteps := 2000000) (disch := omega) only [go_sem, ↓reduceIte] | with_reducible refine vIf_t ?_ | with_reducible refine vIf_f ?_)))
      (try (repeat (first | simp (maxSteps := 2000000) (disch := omega) only [go_sem, ↓reduceIte, hb] | with_reducible refine vIf_t ?_ | with_reducible refine vIf_f ?_)))
      (refine retK_of ?_; (repeat (first | simp (maxSteps := 2000000) (disch := omega) only [go_sem, ↓reduceIte] | with_reducible refine vIf_t ?_ | with_reducible refine vIf_f ?_)))
      refine ⟨k, hk, hj, fun _ => by omega, ?_⟩
      simp [h]
      try rfl
  · have hb : decide ((k : Int) < (ds.length : Int)) = false := decide_eq_false (by omega)
    (try (repeat (first | simp (maxSteps := 2000000) (disch := omega) only [go_sem, ↓reduceIte, hb] | with_reducible refine vIf_t ?_ | with_reducible refine vIf_f ?_)))
    (refine vDraw_sch 15 [(0, false), (1, false), (2, false), (3, false), (4, false), (5, false), (6, false), (7, false), (8, false), (9, false), (10, false), (11, false), (12, false), (13, false), (14, false)] mixed (by kernel_rfl) ?_; simp only [List.cons_append, List.nil_append, List.map_cons, List.map_nil, nthO_zero, nthO_succ, List.drop_succ_cons, List.drop_zero, List.drop_nil]; (repeat (first | simp (maxSteps := 2000000) (disch := omega) only [go_sem, ↓reduceIte] | with_reducible refine vIf_t ?_ | with_reducible refine vIf_f ?_)))
    (try (repeat (first | simp (maxSteps := 2000000) (disch := omega) only [go_sem, ↓reduceIte, hb] | with_reducible refine vIf_t ?_ | with_reducible refine vIf_f ?_)))
    (refine retK_of ?_; (repeat (first | simp (maxSteps := 2000000) (disch := omega) only [go_sem, ↓reduceIte] | with_reducible refine vIf_t ?_ | with_reducible refine vIf_f ?_)))
    refine ⟨k, hk, hj, fun h => by omega, ?_⟩
    simp [h]
theorem okP_at {ds : List Pc} (h : okP ds = true) {id : Int} {a : Nat} (h1 : a ≤ ds.length) (h2 : ∀ j, j < a → (gPc ds j).id < id) (h3 : a < ds.length → id ≤ (gPc ds a).id) :
    (a < ds.length ∧ (gPc ds a).id = id → pwI ds id = a) ∧ (¬ (a < ds.length ∧ (gPc ds a).id = id) → pwI ds id = -1) := by
  have hid := okP_id h
  constructor
  · rintro ⟨g1, g2⟩
    refine fsI_yes a g1 (decide_eq_true (by rw [← gPc_lt ds a g1]; exact g2)) (fun j hj => decide_eq_false ?_)
    rw [← gPc_lt ds j (by omega)]
    have := h2 j hj; omega
  · intro hn
    refine fsI_no fun j hj => decide_eq_false fun e => ?_
    rw [← gPc_lt ds j hj] at e
    rcases Nat.lt_trichotomy j a with hlt | rfl | hgt
    · have := h2 j hlt; omega
    · exact hn ⟨hj, e⟩
    · have := h3 (by omega); have := hid a j hgt hj; omega
theorem l19Find_ok (ds : List Pc) (id : Int) (hl : ds.length ≤ 10000000) : ACalls Tryz.prog 69 [.sl ds.length (cPc ds), I id] [] (fun r o => r = I (pwI ds id) ∧ o = []) := by
  refine ACalls.of_vc Tryz.func69 rfl (by decide) 20 rfl [.tmp 4] rfl (by simp) ?_
  (repeat (first | simp (maxSteps := 2000000) (disch := omega) only [go_sem, ↓reduceIte] | with_reducible refine vIf_t ?_ | with_reducible refine vIf_f ?_))
  refine vcLoop_invF (fun k : Nat => k ≤ ds.length ∧ ∀ j, j < k → (gPc ds j).id ≠ id) (fun k => ⟨20, 0, [(5, I k), (0, .sl ds.length (cPc ds)), (1, I id)], []⟩) (fun k => ds.length - k) 0 ⟨by omega, by omega⟩ (by (first | (refine leF_s ?_; ((repeat (first | simp (maxSteps := 2000000) (disch := omega) only [go_sem, ↓reduceIte] | with_reducible refine vIf_t ?_ | with_reducible refine vIf_f ?_)); all_goals (try simp); all_goals (try omega)); done) | (refine leF_p ?_; ((repeat (first | simp (maxSteps := 2000000) (disch := omega) only [go_sem, ↓reduceIte] | with_reducible refine vIf_t ?_ | with_reducible refine vIf_f ?_)); all_goals (try simp); all_goals (try omega)); done))) ?_
  intro k ⟨hk, hj⟩
  (repeat (first | simp (maxSteps := 2000000) (disch := omega) only [go_sem, ↓reduceIte] | with_reducible refine vIf_t ?_ | with_reducible refine vIf_f ?_))
  refine vIf_dec (fun h => ?_) (fun h => ?_)
  · (repeat (first | simp (maxSteps := 2000000) (disch := omega) only [go_sem, ↓reduceIte] | with_reducible refine vIf_t ?_ | with_reducible refine vIf_f ?_))
    refine vIf_beq (fun h3 => ?_) (fun h3 => ?_)
    · (repeat (first | simp (maxSteps := 2000000) (disch := omega) only [go_sem, ↓reduceIte] | with_reducible refine vIf_t ?_ | with_reducible refine vIf_f ?_))
      (refine retK_of ?_; (repeat (first | simp (maxSteps := 2000000) (disch := omega) only [go_sem, ↓reduceIte] | with_reducible refine vIf_t ?_ | with_reducible refine vIf_f ?_)))
      have e : pwI ds id = k := fsI_yes k (by omega) (decide_eq_true (by rw [← gPc_lt ds k (by omega)]; exact h3)) (fun j hj2 => decide_eq_false (by rw [← gPc_lt ds j (by omega)]; exact hj j hj2))
      rw [e]
    · (repeat (first | simp (maxSteps := 2000000) (disch := omega) only [go_sem, ↓reduceIte] | with_reducible refine vIf_t ?_ | with_reducible refine vIf_f ?_))
      refine againF (k + 1) ⟨by omega, fun j h4 => ?_⟩ (by omega) (by (first | (refine leF_s ?_; ((repeat (first | simp (maxSteps := 2000000) (disch := omega) only [go_sem, ↓reduceIte] | with_reducible refine vIf_t ?_ | with_reducible refine vIf_f ?_)); all_goals (try simp); all_goals (try omega)); done) | (refine leF_p ?_; ((repeat (first | simp (maxSteps := 2000000) (disch := omega) only [go_sem, ↓reduceIte] | with_reducible refine vIf_t ?_ | with_reducible refine vIf_f ?_)); all_goals (try simp); all_goals (try omega)); done)))
      by_cases e : j = k
      · subst e; exact h3
      · exact hj j (by omega)
  · (repeat (first | simp (maxSteps := 2000000) (disch := omega) only [go_sem, ↓reduceIte] | with_reducible refine vIf_t ?_ | with_reducible refine vIf_f ?_))
    (refine retK_of ?_; (repeat (first | simp (maxSteps := 2000000) (disch := omega) only [go_sem, ↓reduceIte] | with_reducible refine vIf_t ?_ | with_reducible refine vIf_f ?_)))
    have e : pwI ds id = -1 := fsI_no fun j hj2 => decide_eq_false (by rw [← gPc_lt ds j hj2]; exact hj j (by omega))
    rw [e]
theorem pw_id {ds : List Pc} {id : Int} (h : pwC ds id = 0) : ∃ a : Nat, a < ds.length ∧ pwV ds id = a ∧ (gPc ds a).id = id := by
  have h2 : pwV ds id = pwI ds id := by rw [pwV, if_pos h]
  unfold pwC at h
  split at h
  case isFalse => omega
  split at h
  case isFalse => omega
  split at h
  · omega
  · rename_i hn
    rcases fsI_cases (fun p : Pc => decide (p.id = id)) ds with ⟨k, hk, e, hq, _⟩ | ⟨e, _⟩
    · refine ⟨k, hk, by rw [h2]; exact e, ?_⟩
      rw [gPc_lt ds k hk]; exact of_decide_eq_true hq
    · exact absurd e (by unfold pwI at hn; omega)
end Go.Proofs.YtbbdfifpncjpnaaGreatDoor

/- names, and lists of names -/
import Derived.Test.YtfhckmlmfigfjaaGreatDoorStrL
import Derived.Test.YtfhckmlmfigfjaaGreatDoorX2
import Derived.Test.YtfhckmlmfigfjaaGreatDoorX3
set_option linter.unusedVariables false
set_option linter.unusedSimpArgs false
namespace Go.Proofs.YtfhckmlmfigfjaaGreatDoor
open Go.AG Go.Lib

theorem tx_bqN {a b : List UInt8} (h : a ≠ b) : ((tx a).toList == (tx b).toList) = false := by
  rw [Bool.eq_false_iff]
  intro e
  have e2 : (tx a).toList = (tx b).toList := by simpa using e
  rw [ByteArray.toList_eq, ByteArray.toList_eq, list_tx, list_tx] at e2
  exact h e2
theorem tx_nb (w : List UInt8) : ((tx w).toList == (tx []).toList) = w.isEmpty := by
  cases w with
  | nil => simp
  | cons a r => rw [tx_bqN (by simp)]; rfl
theorem l01DigitN_ok (c : Int) : ACalls Tryz.prog 183 [.sc (.int .u8 c)] [] (fun r o => r = B (decide (48 ≤ c) && decide (c ≤ 57)) ∧ o = []) := by
  refine ACalls.of_vc Tryz.func183 rfl (by decide) 9 rfl [.tmp 2] rfl (by simp) ?_
  cases h : decide (48 ≤ c) with
  | true =>
    (repeat (first | simp (maxSteps := 2000000) (disch := omega) only [go_sem, ↓reduceIte, h] | with_reducible refine vIf_t ?_ | with_reducible refine vIf_f ?_))
    (refine retK_of ?_; (repeat (first | simp (maxSteps := 2000000) (disch := omega) only [go_sem, ↓reduceIte] | with_reducible refine vIf_t ?_ | with_reducible refine vIf_f ?_)))
    try simp
  | false =>
    (repeat (first | simp (maxSteps := 2000000) (disch := omega) only [go_sem, ↓reduceIte, h] | with_reducible refine vIf_t ?_ | with_reducible refine vIf_f ?_))
    (refine retK_of ?_; (repeat (first | simp (maxSteps := 2000000) (disch := omega) only [go_sem, ↓reduceIte] | with_reducible refine vIf_t ?_ | with_reducible refine vIf_f ?_)))
    try simp
theorem ba_eqN (a b : ByteArray) : (a.toList == b.toList) = decide (a = b) := by
  by_cases h : a = b
  · subst h; simp
  · rw [decide_eq_false h, Bool.eq_false_iff]
    intro e
    have e2 : a.toList = b.toList := by simpa using e
    rw [ByteArray.toList_eq, ByteArray.toList_eq] at e2
    exact h (by rw [← tx_list a, ← tx_list b, e2])
/-- membership -/
def inS (s : ByteArray) (xs : List ByteArray) : Bool := xs.any fun x => decide (x = s)
theorem inS_iff {s : ByteArray} {xs : List ByteArray} : inS s xs = true ↔ s ∈ xs := by
  unfold inS
  rw [List.any_eq_true]
  exact ⟨fun ⟨x, hx, e⟩ => (of_decide_eq_true e) ▸ hx, fun h => ⟨s, h, decide_eq_true rfl⟩⟩
theorem inS_not {s : ByteArray} {xs : List ByteArray} (h : ¬ s ∈ xs) : inS s xs = false := Bool.eq_false_iff.2 fun e => h (inS_iff.1 e)
theorem hasName_ok (xs : List ByteArray) (s : ByteArray) (hl : xs.length ≤ 10000000) : ACalls Tryz.prog 124 [.sl xs.length (strs xs), St s] [] (fun r o => r = B (inS s xs) ∧ o = []) := by
  refine ACalls.of_vc Tryz.func124 rfl (by decide) 17 rfl [.tmp 4] rfl (by simp) ?_
  (repeat (first | simp (maxSteps := 2000000) (disch := omega) only [go_sem, ↓reduceIte] | with_reducible refine vIf_t ?_ | with_reducible refine vIf_f ?_))
  refine vcLoop_inv (fun k : Nat => k ≤ xs.length ∧ ¬ s ∈ xs.take k) (fun k => ⟨17, 0, [(9, I k), (1, St s), (7, .sl xs.length (strs xs)), (8, I xs.length)], []⟩) (fun k => xs.length - k) 0 (by simp) (by (repeat (first | simp (maxSteps := 2000000) (disch := omega) only [go_sem, ↓reduceIte] | with_reducible refine vIf_t ?_ | with_reducible refine vIf_f ?_))) ?_
  intro k ⟨hk, he⟩
  (repeat (first | simp (maxSteps := 2000000) (disch := omega) only [go_sem, ↓reduceIte] | with_reducible refine vIf_t ?_ | with_reducible refine vIf_f ?_))
  refine vIf_dec (fun hc => ?_) (fun hc => ?_)
  · have hkl : k < xs.length := by omega
    (repeat (first | simp (maxSteps := 2000000) (disch := omega) only [go_sem, ↓reduceIte, ba_eqN] | with_reducible refine vIf_t ?_ | with_reducible refine vIf_f ?_))
    refine vIf_bool (fun h => ?_) (fun h => ?_)
    · have h := of_decide_eq_true h
      (repeat (first | simp (maxSteps := 2000000) (disch := omega) only [go_sem, ↓reduceIte] | with_reducible refine vIf_t ?_ | with_reducible refine vIf_f ?_))
      (refine retK_of ?_; (repeat (first | simp (maxSteps := 2000000) (disch := omega) only [go_sem, ↓reduceIte] | with_reducible refine vIf_t ?_ | with_reducible refine vIf_f ?_)))
      rw [inS_iff.2 (h ▸ gs_mem xs k hkl)]
    · have h := of_decide_eq_false h
      (repeat (first | simp (maxSteps := 2000000) (disch := omega) only [go_sem, ↓reduceIte] | with_reducible refine vIf_t ?_ | with_reducible refine vIf_f ?_))
      refine again (k + 1) ⟨by omega, ?_⟩ (by omega) (by (repeat (first | simp (maxSteps := 2000000) (disch := omega) only [go_sem, ↓reduceIte] | with_reducible refine vIf_t ?_ | with_reducible refine vIf_f ?_)))
      rw [gs_take_succ xs k hkl]
      simp only [List.mem_append, List.mem_singleton, not_or]
      exact ⟨he, fun e => h e.symm⟩
  · have ek : k = xs.length := by omega
    subst ek
    rw [List.take_length] at he
    (repeat (first | simp (maxSteps := 2000000) (disch := omega) only [go_sem, ↓reduceIte] | with_reducible refine vIf_t ?_ | with_reducible refine vIf_f ?_))
    (refine retK_of ?_; (repeat (first | simp (maxSteps := 2000000) (disch := omega) only [go_sem, ↓reduceIte] | with_reducible refine vIf_t ?_ | with_reducible refine vIf_f ?_)))
    rw [inS_not he]
@[local go_sem] theorem mk_txV (l : List UInt8) : ByteArray.mk (List.toArray l) = tx l := rfl
def smB (c : UInt8) : Bool := decide (97 ≤ c.toNat ∧ c.toNat ≤ 122)
def dgB (c : UInt8) : Bool := decide (48 ≤ c.toNat ∧ c.toNat ≤ 57)
/-- a letter of a name, the first one or a later one -/
def ncB (c : UInt8) (i : Nat) : Bool := smB c || ((dgB c || decide (c.toNat = 45)) && decide (i ≠ 0))
/-- a name -/
def nameB (l : List UInt8) : Bool := decide (1 ≤ l.length ∧ l.length ≤ 12) && decide (∀ i, i < l.length → ncB (l.getD i 0) i = true)
theorem byteAt_get (l : List UInt8) (k : Nat) (h : k < l.length) : byteAt (tx l) k = ((l.getD k 0).toNat : Int) := by simp [byteAt, list_tx, h]
theorem ncB_no {l : List UInt8} {k : Nat} (hk : k < l.length) (h : ncB (l.getD k 0) k = false) : nameB l = false := by
  unfold nameB
  rw [Bool.and_eq_false_iff]
  refine .inr (decide_eq_false fun hh => ?_)
  rw [hh k hk] at h; cases h
theorem ncB_eq (c : UInt8) (k : Nat) : ncB c k = ((decide (97 ≤ (c.toNat : Int)) && decide ((c.toNat : Int) ≤ 122)) || (((decide (48 ≤ (c.toNat : Int)) && decide ((c.toNat : Int) ≤ 57)) || ((c.toNat : Int) == 45)) && !((k : Int) == 0))) := by
  unfold ncB smB dgB
  have e1 : decide (97 ≤ c.toNat ∧ c.toNat ≤ 122) = (decide (97 ≤ (c.toNat : Int)) && decide ((c.toNat : Int) ≤ 122)) := by rw [← Bool.decide_and]; exact decide_eq_decide.2 (by omega)
  have e2 : decide (48 ≤ c.toNat ∧ c.toNat ≤ 57) = (decide (48 ≤ (c.toNat : Int)) && decide ((c.toNat : Int) ≤ 57)) := by rw [← Bool.decide_and]; exact decide_eq_decide.2 (by omega)
  have e3 : decide (c.toNat = 45) = ((c.toNat : Int) == 45) := by rw [Bool.eq_iff_iff, decide_eq_true_eq, beq_iff_eq]; omega
  have e4 : decide (k ≠ 0) = !((k : Int) == 0) := by rw [Bool.eq_iff_iff, decide_eq_true_eq, Bool.not_eq_true', beq_eq_false_iff_ne]; omega
  rw [e1, e2, e3, e4]
set_option maxHeartbeats 4000000 in
theorem isNameX_ok (l : List UInt8) (hl : l.length ≤ 100000) : ACalls Tryz.prog 187 [St (tx l)] [] (fun r o => r = B (nameB l) ∧ o = []) := by
  refine ACalls.of_vc Tryz.func187 rfl (by decide) 51 rfl [.tmp 2] rfl (by simp) ?_
  have hsz := tx_size l
  (repeat (first | simp (maxSteps := 2000000) (disch := omega) only [go_sem, ↓reduceIte] | with_reducible refine vIf_t ?_ | with_reducible refine vIf_f ?_))
  refine vcLoop_invF (fun k : Nat => k ≤ l.length ∧ ∀ i, i < k → ncB (l.getD i 0) i = true) (fun k => ⟨51, 0, [(3, I k), (0, St (tx l))], []⟩) (fun k => l.length - k) 0 ⟨by omega, fun i hi => by omega⟩ (by (first | (refine leF_s ?_; ((repeat (first | simp (maxSteps := 2000000) (disch := omega) only [go_sem, ↓reduceIte] | with_reducible refine vIf_t ?_ | with_reducible refine vIf_f ?_)); all_goals (try simp); all_goals (try omega)); done) | (refine leF_p ?_; ((repeat (first | simp (maxSteps := 2000000) (disch := omega) only [go_sem, ↓reduceIte] | with_reducible refine vIf_t ?_ | with_reducible refine vIf_f ?_)); all_goals (try simp); all_goals (try omega)); done))) ?_
  intro k ⟨hk, he⟩
  (repeat (first | simp (maxSteps := 2000000) (disch := omega) only [go_sem, ↓reduceIte] | with_reducible refine vIf_t ?_ | with_reducible refine vIf_f ?_))
  refine vIf_dec (fun hc => ?_) (fun hc => ?_)
  · have hkl : k < l.length := by omega
    have hb := byteAt_get l k hkl
    have hno := ncB_no (l := l) hkl
    have hgo : ncB (l.getD k 0) k = true → ∀ i, i < k + 1 → ncB (l.getD i 0) i = true := fun h i hi => by
      by_cases e : i = k
      · subst e; exact h
      · exact he i (by omega)
    generalize l.getD k 0 = c at *
    have hnc := ncB_eq c k
    generalize hx1 : decide (97 ≤ (c.toNat : Int)) = x1 at *
    generalize hx2 : decide ((c.toNat : Int) ≤ 122) = x2 at *
    generalize hx3 : decide (48 ≤ (c.toNat : Int)) = x3 at *
    generalize hx4 : decide ((c.toNat : Int) ≤ 57) = x4 at *
    generalize hx5 : ((c.toNat : Int) == 45) = x5 at *
    generalize hx6 : ((k : Int) == 0) = x6 at *
    cases x1 <;> cases x2 <;> cases x3 <;> cases x4 <;> cases x5 <;> cases x6
    all_goals try (simp only [decide_eq_true_eq, decide_eq_false_iff_not, beq_iff_eq, beq_eq_false_iff_ne] at hx1 hx2 hx3 hx4 hx5; omega)
    all_goals
      (repeat (first | simp (maxSteps := 2000000) (disch := omega) only [go_sem, ↓reduceIte, hb, hx1, hx2, hx3, hx4, hx5, hx6] | with_reducible refine vIf_t ?_ | with_reducible refine vIf_f ?_))
    all_goals first
      | (refine againF (k + 1) ⟨by omega, hgo hnc⟩ (by omega) (by (first | (refine leF_s ?_; ((repeat (first | simp (maxSteps := 2000000) (disch := omega) only [go_sem, ↓reduceIte] | with_reducible refine vIf_t ?_ | with_reducible refine vIf_f ?_)); all_goals (try simp); all_goals (try omega)); done) | (refine leF_p ?_; ((repeat (first | simp (maxSteps := 2000000) (disch := omega) only [go_sem, ↓reduceIte] | with_reducible refine vIf_t ?_ | with_reducible refine vIf_f ?_)); all_goals (try simp); all_goals (try omega)); done))); done)
      | skip
    all_goals
      (refine retK_of ?_; (repeat (first | simp (maxSteps := 2000000) (disch := omega) only [go_sem, ↓reduceIte] | with_reducible refine vIf_t ?_ | with_reducible refine vIf_f ?_)))
    all_goals rw [hno hnc]
  · have hi := in_ok (l.length : Int) 1 12
    have ek : k = l.length := by omega
    subst ek
    (repeat (first | simp (maxSteps := 2000000) (disch := omega) only [go_sem, ↓reduceIte, hsz] | with_reducible refine vIf_t ?_ | with_reducible refine vIf_f ?_))
    (refine vCallX_of ?_; (repeat (first | simp (maxSteps := 2000000) (disch := omega) only [go_sem, ↓reduceIte] | with_reducible refine vIf_t ?_ | with_reducible refine vIf_f ?_)); refine vCall_eq (hi) (by simp (disch := omega) only [go_sem]) rfl (by first | exact Or.inl rfl | exact Or.inr ⟨rfl, rfl⟩ | (apply Or.inr; simp only [go_sem])) ?_; (repeat (first | simp (maxSteps := 2000000) (disch := omega) only [go_sem, ↓reduceIte] | with_reducible refine vIf_t ?_ | with_reducible refine vIf_f ?_)))
    (refine retK_of ?_; (repeat (first | simp (maxSteps := 2000000) (disch := omega) only [go_sem, ↓reduceIte] | with_reducible refine vIf_t ?_ | with_reducible refine vIf_f ?_)))
    unfold nameB
    rw [decide_eq_true he, Bool.and_true]
    congr 2
    exact decide_eq_decide.2 (by omega)
theorem small_ok (c : Int) : ACalls Tryz.prog 224 [.sc (.int .u8 c)] [] (fun r o => r = B (decide (97 ≤ c) && decide (c ≤ 122)) ∧ o = []) := by
  refine ACalls.of_vc Tryz.func224 rfl (by decide) 9 rfl [.tmp 2] rfl (by simp) ?_
  cases h1 : decide (97 ≤ c) with
  | false =>
    (repeat (first | simp (maxSteps := 2000000) (disch := omega) only [go_sem, ↓reduceIte, h1] | with_reducible refine vIf_t ?_ | with_reducible refine vIf_f ?_))
    (refine retK_of ?_; (repeat (first | simp (maxSteps := 2000000) (disch := omega) only [go_sem, ↓reduceIte] | with_reducible refine vIf_t ?_ | with_reducible refine vIf_f ?_)))
  | true =>
    (repeat (first | simp (maxSteps := 2000000) (disch := omega) only [go_sem, ↓reduceIte, h1] | with_reducible refine vIf_t ?_ | with_reducible refine vIf_f ?_))
    (refine retK_of ?_; (repeat (first | simp (maxSteps := 2000000) (disch := omega) only [go_sem, ↓reduceIte] | with_reducible refine vIf_t ?_ | with_reducible refine vIf_f ?_)))
set_option maxHeartbeats 4000000 in
theorem isNameS_ok (l : List UInt8) (hl : l.length ≤ 100000) : ACalls Tryz.prog 188 [St (tx l)] [] (fun r o => r = B (nameB l) ∧ o = []) := by
  refine ACalls.of_vc Tryz.func188 rfl (by decide) 41 rfl [.tmp 2] rfl (by simp) ?_
  have hsz := tx_size l
  cases l with
  | nil =>
    (repeat (first | simp (maxSteps := 2000000) (disch := omega) only [go_sem, ↓reduceIte, tx_nb, List.isEmpty_nil] | with_reducible refine vIf_t ?_ | with_reducible refine vIf_f ?_))
    (refine retK_of ?_; (repeat (first | simp (maxSteps := 2000000) (disch := omega) only [go_sem, ↓reduceIte] | with_reducible refine vIf_t ?_ | with_reducible refine vIf_f ?_)))
    rfl
  | cons a r =>
    have h0 := byteAt_get (a :: r) 0 (by simp)
    have hn0 := ncB_no (l := a :: r) (k := 0) (by simp)
    have hnc0 := ncB_eq a 0
    have ha0 : (a :: r).getD 0 0 = a := rfl
    simp only [List.getD_cons_zero] at h0 hn0
    have q0 := small_ok (a.toNat : Int)
    generalize hL : a :: r = L at *
    have hne : L.isEmpty = false := by subst hL; rfl
    have hlp : 1 ≤ L.length := by subst hL; simp
    rw [show (((0 : Nat) : Int) == 0) = true from rfl, Bool.not_true, Bool.and_false, Bool.or_false] at hnc0
    (repeat (first | simp (maxSteps := 2000000) (disch := omega) only [go_sem, ↓reduceIte, tx_nb, hne] | with_reducible refine vIf_t ?_ | with_reducible refine vIf_f ?_))
    by_cases h12 : L.length ≤ 12
    · have d12 : decide (12 < (L.length : Int)) = false := decide_eq_false (by omega)
      (repeat (first | simp (maxSteps := 2000000) (disch := omega) only [go_sem, ↓reduceIte, hsz, d12, h0] | with_reducible refine vIf_t ?_ | with_reducible refine vIf_f ?_))
      (refine vCallX_of ?_; (repeat (first | simp (maxSteps := 2000000) (disch := omega) only [go_sem, ↓reduceIte] | with_reducible refine vIf_t ?_ | with_reducible refine vIf_f ?_)); refine vCall_eq (q0) (by simp (disch := omega) only [go_sem]) rfl (by first | exact Or.inl rfl | exact Or.inr ⟨rfl, rfl⟩ | (apply Or.inr; simp only [go_sem])) ?_; (repeat (first | simp (maxSteps := 2000000) (disch := omega) only [go_sem, ↓reduceIte] | with_reducible refine vIf_t ?_ | with_reducible refine vIf_f ?_)))
      refine vIf_bool (fun h => ?_) (fun h => ?_)
      · rw [Bool.not_eq_true'] at h
        rw [h] at hnc0
        (repeat (first | simp (maxSteps := 2000000) (disch := omega) only [go_sem, ↓reduceIte] | with_reducible refine vIf_t ?_ | with_reducible refine vIf_f ?_))
        (refine retK_of ?_; (repeat (first | simp (maxSteps := 2000000) (disch := omega) only [go_sem, ↓reduceIte] | with_reducible refine vIf_t ?_ | with_reducible refine vIf_f ?_)))
        rw [hn0 hnc0]
      · rw [Bool.not_eq_false'] at h
        (repeat (first | simp (maxSteps := 2000000) (disch := omega) only [go_sem, ↓reduceIte] | with_reducible refine vIf_t ?_ | with_reducible refine vIf_f ?_))
        refine vcLoop_invF (fun k : Nat => k ≤ L.length ∧ ∀ i, i < k → ncB (L.getD i 0) i = true) (fun k => ⟨41, 0, [(3, I k), (0, St (tx L))], []⟩) (fun k => L.length - k) 0 ⟨by omega, fun i hi => by omega⟩ (by (first | (refine leF_s ?_; ((repeat (first | simp (maxSteps := 2000000) (disch := omega) only [go_sem, ↓reduceIte] | with_reducible refine vIf_t ?_ | with_reducible refine vIf_f ?_)); all_goals (try simp); all_goals (try omega)); done) | (refine leF_p ?_; ((repeat (first | simp (maxSteps := 2000000) (disch := omega) only [go_sem, ↓reduceIte] | with_reducible refine vIf_t ?_ | with_reducible refine vIf_f ?_)); all_goals (try simp); all_goals (try omega)); done))) ?_
        intro k ⟨hk, he⟩
        (repeat (first | simp (maxSteps := 2000000) (disch := omega) only [go_sem, ↓reduceIte] | with_reducible refine vIf_t ?_ | with_reducible refine vIf_f ?_))
        refine vIf_dec (fun hc => ?_) (fun hc => ?_)
        · have hkl : k < L.length := by omega
          have hb := byteAt_get L k hkl
          have hno := ncB_no (l := L) hkl
          have hgo : ncB (L.getD k 0) k = true → ∀ i, i < k + 1 → ncB (L.getD i 0) i = true := fun h i hi => by
            by_cases e : i = k
            · subst e; exact h
            · exact he i (by omega)
          have hk0 : k = 0 → L.getD k 0 = a := fun e => by rw [e]; exact ha0
          generalize L.getD k 0 = c at *
          have hnc := ncB_eq c k
          have q1 := small_ok (c.toNat : Int)
          have q2 := l01DigitN_ok (c.toNat : Int)
          have hsm : k = 0 → (decide (97 ≤ (c.toNat : Int)) && decide ((c.toNat : Int) ≤ 122)) = true := fun e => by rw [hk0 e]; exact h
          generalize (decide (97 ≤ (c.toNat : Int)) && decide ((c.toNat : Int) ≤ 122)) = x1 at *
          generalize (decide (48 ≤ (c.toNat : Int)) && decide ((c.toNat : Int) ≤ 57)) = x2 at *
          cases x1 with
          | true =>
            (repeat (first | simp (maxSteps := 2000000) (disch := omega) only [go_sem, ↓reduceIte, hb] | with_reducible refine vIf_t ?_ | with_reducible refine vIf_f ?_))
            (refine vCallX_of ?_; (repeat (first | simp (maxSteps := 2000000) (disch := omega) only [go_sem, ↓reduceIte] | with_reducible refine vIf_t ?_ | with_reducible refine vIf_f ?_)); refine vCall_eq (q1) (by simp (disch := omega) only [go_sem]) rfl (by first | exact Or.inl rfl | exact Or.inr ⟨rfl, rfl⟩ | (apply Or.inr; simp only [go_sem])) ?_; (repeat (first | simp (maxSteps := 2000000) (disch := omega) only [go_sem, ↓reduceIte] | with_reducible refine vIf_t ?_ | with_reducible refine vIf_f ?_)))
            refine againF (k + 1) ⟨by omega, hgo (by rw [hnc]; rfl)⟩ (by omega) (by (first | (refine leF_s ?_; ((repeat (first | simp (maxSteps := 2000000) (disch := omega) only [go_sem, ↓reduceIte] | with_reducible refine vIf_t ?_ | with_reducible refine vIf_f ?_)); all_goals (try simp); all_goals (try omega)); done) | (refine leF_p ?_; ((repeat (first | simp (maxSteps := 2000000) (disch := omega) only [go_sem, ↓reduceIte] | with_reducible refine vIf_t ?_ | with_reducible refine vIf_f ?_)); all_goals (try simp); all_goals (try omega)); done)))
          | false =>
            have e0 : ((k : Int) == 0) = false := by
              rw [beq_eq_false_iff_ne]
              intro e
              have := hsm (by omega)
              cases this
            rw [e0, Bool.false_or, Bool.not_false, Bool.and_true] at hnc
            (repeat (first | simp (maxSteps := 2000000) (disch := omega) only [go_sem, ↓reduceIte, hb] | with_reducible refine vIf_t ?_ | with_reducible refine vIf_f ?_))
            (refine vCallX_of ?_; (repeat (first | simp (maxSteps := 2000000) (disch := omega) only [go_sem, ↓reduceIte] | with_reducible refine vIf_t ?_ | with_reducible refine vIf_f ?_)); refine vCall_eq (q1) (by simp (disch := omega) only [go_sem]) rfl (by first | exact Or.inl rfl | exact Or.inr ⟨rfl, rfl⟩ | (apply Or.inr; simp only [go_sem])) ?_; (repeat (first | simp (maxSteps := 2000000) (disch := omega) only [go_sem, ↓reduceIte] | with_reducible refine vIf_t ?_ | with_reducible refine vIf_f ?_)))
            (repeat (first | simp (maxSteps := 2000000) (disch := omega) only [go_sem, ↓reduceIte, hb] | with_reducible refine vIf_t ?_ | with_reducible refine vIf_f ?_))
            (refine vCallX_of ?_; (repeat (first | simp (maxSteps := 2000000) (disch := omega) only [go_sem, ↓reduceIte] | with_reducible refine vIf_t ?_ | with_reducible refine vIf_f ?_)); refine vCall_eq (q2) (by simp (disch := omega) only [go_sem]) rfl (by first | exact Or.inl rfl | exact Or.inr ⟨rfl, rfl⟩ | (apply Or.inr; simp only [go_sem])) ?_; (repeat (first | simp (maxSteps := 2000000) (disch := omega) only [go_sem, ↓reduceIte] | with_reducible refine vIf_t ?_ | with_reducible refine vIf_f ?_)))
            cases x2 with
            | true =>
              (repeat (first | simp (maxSteps := 2000000) (disch := omega) only [go_sem, ↓reduceIte, hb] | with_reducible refine vIf_t ?_ | with_reducible refine vIf_f ?_))
              refine againF (k + 1) ⟨by omega, hgo (by rw [hnc]; rfl)⟩ (by omega) (by (first | (refine leF_s ?_; ((repeat (first | simp (maxSteps := 2000000) (disch := omega) only [go_sem, ↓reduceIte] | with_reducible refine vIf_t ?_ | with_reducible refine vIf_f ?_)); all_goals (try simp); all_goals (try omega)); done) | (refine leF_p ?_; ((repeat (first | simp (maxSteps := 2000000) (disch := omega) only [go_sem, ↓reduceIte] | with_reducible refine vIf_t ?_ | with_reducible refine vIf_f ?_)); all_goals (try simp); all_goals (try omega)); done)))
            | false =>
              cases hx5 : ((c.toNat : Int) == 45) with
              | true =>
                have hx6 : ((c.toNat : Int) != 45) = false := by rw [bne, hx5]; rfl
                (repeat (first | simp (maxSteps := 2000000) (disch := omega) only [go_sem, ↓reduceIte, hb, hx6] | with_reducible refine vIf_t ?_ | with_reducible refine vIf_f ?_))
                refine againF (k + 1) ⟨by omega, hgo (by rw [hnc, hx5]; rfl)⟩ (by omega) (by (first | (refine leF_s ?_; ((repeat (first | simp (maxSteps := 2000000) (disch := omega) only [go_sem, ↓reduceIte] | with_reducible refine vIf_t ?_ | with_reducible refine vIf_f ?_)); all_goals (try simp); all_goals (try omega)); done) | (refine leF_p ?_; ((repeat (first | simp (maxSteps := 2000000) (disch := omega) only [go_sem, ↓reduceIte] | with_reducible refine vIf_t ?_ | with_reducible refine vIf_f ?_)); all_goals (try simp); all_goals (try omega)); done)))
              | false =>
                have hx6 : ((c.toNat : Int) != 45) = true := by rw [bne, hx5]; rfl
                (repeat (first | simp (maxSteps := 2000000) (disch := omega) only [go_sem, ↓reduceIte, hb, hx6] | with_reducible refine vIf_t ?_ | with_reducible refine vIf_f ?_))
                (refine retK_of ?_; (repeat (first | simp (maxSteps := 2000000) (disch := omega) only [go_sem, ↓reduceIte] | with_reducible refine vIf_t ?_ | with_reducible refine vIf_f ?_)))
                rw [hno (by rw [hnc, hx5]; rfl)]
        · have ek : k = L.length := by omega
          subst ek
          (repeat (first | simp (maxSteps := 2000000) (disch := omega) only [go_sem, ↓reduceIte] | with_reducible refine vIf_t ?_ | with_reducible refine vIf_f ?_))
          (refine retK_of ?_; (repeat (first | simp (maxSteps := 2000000) (disch := omega) only [go_sem, ↓reduceIte] | with_reducible refine vIf_t ?_ | with_reducible refine vIf_f ?_)))
          unfold nameB
          rw [decide_eq_true he, decide_eq_true ⟨hlp, h12⟩]; rfl
    · have d12 : decide (12 < (L.length : Int)) = true := decide_eq_true (by omega)
      (repeat (first | simp (maxSteps := 2000000) (disch := omega) only [go_sem, ↓reduceIte, hsz, d12] | with_reducible refine vIf_t ?_ | with_reducible refine vIf_f ?_))
      (refine retK_of ?_; (repeat (first | simp (maxSteps := 2000000) (disch := omega) only [go_sem, ↓reduceIte] | with_reducible refine vIf_t ?_ | with_reducible refine vIf_f ?_)))
      unfold nameB
      rw [decide_eq_false (p := 1 ≤ L.length ∧ L.length ≤ 12) (by omega)]; rfl
end Go.Proofs.YtfhckmlmfigfjaaGreatDoor

/- parcels: what is valid -/
import Derived.Test.YtbbdfifpncjpnaaGreatDoorParcel
import Derived.Test.YtbbdfifpncjpnaaGreatDoorX3
set_option linter.unusedVariables false
set_option linter.unusedSimpArgs false
namespace Go.Proofs.YtbbdfifpncjpnaaGreatDoor
open Go.AG

def pcB (p : Pc) : Bool := decide (1 ≤ p.id ∧ p.id ≤ 9999) && (decide (0 ≤ p.owner ∧ p.owner ≤ 39) && (decide (1 ≤ p.area ∧ p.area ≤ 10000000) && decide (0 ≤ p.cls ∧ p.cls ≤ 3)))
theorem isPcId_ok (n : Int) : ACalls Tryz.prog 112 [I n] [] (fun r o => r = B (decide (1 ≤ n ∧ n ≤ 9999)) ∧ o = []) := by
  refine ACalls.of_vc Tryz.func112 rfl (by decide) 5 rfl [.tmp 2] rfl (by simp) ?_
  (repeat (first | simp (maxSteps := 2000000) (disch := omega) only [go_sem, ↓reduceIte] | with_reducible refine vIf_t ?_ | with_reducible refine vIf_f ?_))
  (refine vCallX_of ?_; (repeat (first | simp (maxSteps := 2000000) (disch := omega) only [go_sem, ↓reduceIte] | with_reducible refine vIf_t ?_ | with_reducible refine vIf_f ?_)); refine vCall_eq (in_ok n 1 9999) (by simp (disch := omega) only [go_sem]) rfl (by first | exact Or.inl rfl | exact Or.inr ⟨rfl, rfl⟩ | (apply Or.inr; simp only [go_sem])) ?_; (repeat (first | simp (maxSteps := 2000000) (disch := omega) only [go_sem, ↓reduceIte] | with_reducible refine vIf_t ?_ | with_reducible refine vIf_f ?_)))
  (refine retK_of ?_; (repeat (first | simp (maxSteps := 2000000) (disch := omega) only [go_sem, ↓reduceIte] | with_reducible refine vIf_t ?_ | with_reducible refine vIf_f ?_)))
theorem isOwner_ok (n : Int) : ACalls Tryz.prog 71 [I n] [] (fun r o => r = B (decide (0 ≤ n ∧ n ≤ 39)) ∧ o = []) := by
  refine ACalls.of_vc Tryz.func71 rfl (by decide) 5 rfl [.tmp 2] rfl (by simp) ?_
  (repeat (first | simp (maxSteps := 2000000) (disch := omega) only [go_sem, ↓reduceIte] | with_reducible refine vIf_t ?_ | with_reducible refine vIf_f ?_))
  (refine vCallX_of ?_; (repeat (first | simp (maxSteps := 2000000) (disch := omega) only [go_sem, ↓reduceIte] | with_reducible refine vIf_t ?_ | with_reducible refine vIf_f ?_)); refine vCall_eq (in_ok n 0 39) (by simp (disch := omega) only [go_sem]) rfl (by first | exact Or.inl rfl | exact Or.inr ⟨rfl, rfl⟩ | (apply Or.inr; simp only [go_sem])) ?_; (repeat (first | simp (maxSteps := 2000000) (disch := omega) only [go_sem, ↓reduceIte] | with_reducible refine vIf_t ?_ | with_reducible refine vIf_f ?_)))
  (refine retK_of ?_; (repeat (first | simp (maxSteps := 2000000) (disch := omega) only [go_sem, ↓reduceIte] | with_reducible refine vIf_t ?_ | with_reducible refine vIf_f ?_)))
theorem isPcA_ok (n : Int) : ACalls Tryz.prog 63 [I n] [] (fun r o => r = B (decide (1 ≤ n ∧ n ≤ 10000000)) ∧ o = []) := by
  refine ACalls.of_vc Tryz.func63 rfl (by decide) 5 rfl [.tmp 2] rfl (by simp) ?_
  (repeat (first | simp (maxSteps := 2000000) (disch := omega) only [go_sem, ↓reduceIte] | with_reducible refine vIf_t ?_ | with_reducible refine vIf_f ?_))
  (refine vCallX_of ?_; (repeat (first | simp (maxSteps := 2000000) (disch := omega) only [go_sem, ↓reduceIte] | with_reducible refine vIf_t ?_ | with_reducible refine vIf_f ?_)); refine vCall_eq (in_ok n 1 10000000) (by simp (disch := omega) only [go_sem]) rfl (by first | exact Or.inl rfl | exact Or.inr ⟨rfl, rfl⟩ | (apply Or.inr; simp only [go_sem])) ?_; (repeat (first | simp (maxSteps := 2000000) (disch := omega) only [go_sem, ↓reduceIte] | with_reducible refine vIf_t ?_ | with_reducible refine vIf_f ?_)))
  (refine retK_of ?_; (repeat (first | simp (maxSteps := 2000000) (disch := omega) only [go_sem, ↓reduceIte] | with_reducible refine vIf_t ?_ | with_reducible refine vIf_f ?_)))
theorem isPc_ok (p : Pc) : ACalls Tryz.prog 76 [.agg p.cells] [] (fun r o => r = B (pcB p) ∧ o = []) := by
  refine ACalls.of_vc Tryz.func76 rfl (by decide) 21 rfl [.tmp 2] rfl (by simp) ?_
  unfold Pc.cells
  (repeat (first | simp (maxSteps := 2000000) (disch := omega) only [go_sem, ↓reduceIte] | with_reducible refine vIf_t ?_ | with_reducible refine vIf_f ?_))
  (refine vCallX_of ?_; (repeat (first | simp (maxSteps := 2000000) (disch := omega) only [go_sem, ↓reduceIte] | with_reducible refine vIf_t ?_ | with_reducible refine vIf_f ?_)); refine vCall_eq (isPcId_ok p.id) (by simp (disch := omega) only [go_sem]) rfl (by first | exact Or.inl rfl | exact Or.inr ⟨rfl, rfl⟩ | (apply Or.inr; simp only [go_sem])) ?_; (repeat (first | simp (maxSteps := 2000000) (disch := omega) only [go_sem, ↓reduceIte] | with_reducible refine vIf_t ?_ | with_reducible refine vIf_f ?_)))
  cases h1 : decide (1 ≤ p.id ∧ p.id ≤ 9999) with
  | false =>
    (try (repeat (first | simp (maxSteps := 2000000) (disch := omega) only [go_sem, ↓reduceIte, h1] | with_reducible refine vIf_t ?_ | with_reducible refine vIf_f ?_)))
    (refine retK_of ?_; (repeat (first | simp (maxSteps := 2000000) (disch := omega) only [go_sem, ↓reduceIte] | with_reducible refine vIf_t ?_ | with_reducible refine vIf_f ?_)))
    simp [pcB, h1]
  | true =>
    (try (repeat (first | simp (maxSteps := 2000000) (disch := omega) only [go_sem, ↓reduceIte, h1] | with_reducible refine vIf_t ?_ | with_reducible refine vIf_f ?_)))
    (refine vCallX_of ?_; (repeat (first | simp (maxSteps := 2000000) (disch := omega) only [go_sem, ↓reduceIte] | with_reducible refine vIf_t ?_ | with_reducible refine vIf_f ?_)); refine vCall_eq (isOwner_ok p.owner) (by simp (disch := omega) only [go_sem]) rfl (by first | exact Or.inl rfl | exact Or.inr ⟨rfl, rfl⟩ | (apply Or.inr; simp only [go_sem])) ?_; (repeat (first | simp (maxSteps := 2000000) (disch := omega) only [go_sem, ↓reduceIte] | with_reducible refine vIf_t ?_ | with_reducible refine vIf_f ?_)))
    cases h2 : decide (0 ≤ p.owner ∧ p.owner ≤ 39) with
    | false =>
      (try (repeat (first | simp (maxSteps := 2000000) (disch := omega) only [go_sem, ↓reduceIte, h2] | with_reducible refine vIf_t ?_ | with_reducible refine vIf_f ?_)))
      (refine retK_of ?_; (repeat (first | simp (maxSteps := 2000000) (disch := omega) only [go_sem, ↓reduceIte] | with_reducible refine vIf_t ?_ | with_reducible refine vIf_f ?_)))
      simp [pcB, h1, h2]
    | true =>
      (try (repeat (first | simp (maxSteps := 2000000) (disch := omega) only [go_sem, ↓reduceIte, h2] | with_reducible refine vIf_t ?_ | with_reducible refine vIf_f ?_)))
      (refine vCallX_of ?_; (repeat (first | simp (maxSteps := 2000000) (disch := omega) only [go_sem, ↓reduceIte] | with_reducible refine vIf_t ?_ | with_reducible refine vIf_f ?_)); refine vCall_eq (isPcA_ok p.area) (by simp (disch := omega) only [go_sem]) rfl (by first | exact Or.inl rfl | exact Or.inr ⟨rfl, rfl⟩ | (apply Or.inr; simp only [go_sem])) ?_; (repeat (first | simp (maxSteps := 2000000) (disch := omega) only [go_sem, ↓reduceIte] | with_reducible refine vIf_t ?_ | with_reducible refine vIf_f ?_)))
      cases h3 : decide (1 ≤ p.area ∧ p.area ≤ 10000000) with
      | false =>
        (try (repeat (first | simp (maxSteps := 2000000) (disch := omega) only [go_sem, ↓reduceIte, h3] | with_reducible refine vIf_t ?_ | with_reducible refine vIf_f ?_)))
        (refine retK_of ?_; (repeat (first | simp (maxSteps := 2000000) (disch := omega) only [go_sem, ↓reduceIte] | with_reducible refine vIf_t ?_ | with_reducible refine vIf_f ?_)))
        simp [pcB, h1, h2, h3]
      | true =>
        (try (repeat (first | simp (maxSteps := 2000000) (disch := omega) only [go_sem, ↓reduceIte, h3] | with_reducible refine vIf_t ?_ | with_reducible refine vIf_f ?_)))
        (refine vCallX_of ?_; (repeat (first | simp (maxSteps := 2000000) (disch := omega) only [go_sem, ↓reduceIte] | with_reducible refine vIf_t ?_ | with_reducible refine vIf_f ?_)); refine vCall_eq (in_ok p.cls 0 3) (by simp (disch := omega) only [go_sem]) rfl (by first | exact Or.inl rfl | exact Or.inr ⟨rfl, rfl⟩ | (apply Or.inr; simp only [go_sem])) ?_; (repeat (first | simp (maxSteps := 2000000) (disch := omega) only [go_sem, ↓reduceIte] | with_reducible refine vIf_t ?_ | with_reducible refine vIf_f ?_)))
        (refine retK_of ?_; (repeat (first | simp (maxSteps := 2000000) (disch := omega) only [go_sem, ↓reduceIte] | with_reducible refine vIf_t ?_ | with_reducible refine vIf_f ?_)))
        simp [pcB, h1, h2, h3]
theorem allPc_snoc (q : Pc → Bool) (xs : List Pc) (k : Nat) (h : k < xs.length) (he : (xs.take k).all q = true) (hq : q (gPc xs k) = true) : (xs.take (k + 1)).all q = true := by
  rw [gPc_take_succ xs k h, List.all_append, he]; simp [hq]
theorem allPc_no (q : Pc → Bool) (xs : List Pc) (k : Nat) (h : k < xs.length) (hq : q (gPc xs k) = false) : xs.all q = false := by
  rw [List.all_eq_false]
  exact ⟨gPc xs k, gPc_mem xs k h, by simp [hq]⟩
theorem allPc_ok (f : FuncId) (caps : List V) (q : Pc → Bool) (xs : List Pc) (hf : ∀ x ∈ xs, ACalls Tryz.prog f (.agg x.cells :: caps) [] (fun r o => r = B (q x) ∧ o = [])) (hc : V.norefL caps = true) (hl : xs.length ≤ 10000000) :
    ACalls Tryz.prog 86 [.sl xs.length (cPc xs), .fn f caps] [] (fun r o => r = B (xs.all q) ∧ o = []) := by
  refine ACalls.of_vc Tryz.func86 rfl (by decide) 18 rfl [.tmp 4] rfl (by simp) ?_
  (repeat (first | simp (maxSteps := 2000000) (disch := omega) only [go_sem, ↓reduceIte] | with_reducible refine vIf_t ?_ | with_reducible refine vIf_f ?_))
  refine vcLoop_inv (fun k : Nat => k ≤ xs.length ∧ (xs.take k).all q = true) (fun k => ⟨18, 0, [(9, I k), (8, I xs.length), (7, .sl xs.length (cPc xs)), (1, .fn f caps)], []⟩) (fun k => xs.length - k) 0 (by simp) (by (repeat (first | simp (maxSteps := 2000000) (disch := omega) only [go_sem, ↓reduceIte, killL_noref _ _ hc] | with_reducible refine vIf_t ?_ | with_reducible refine vIf_f ?_)); all_goals (try simp)) ?_
  intro k ⟨hk, he⟩
  (repeat (first | simp (maxSteps := 2000000) (disch := omega) only [go_sem, ↓reduceIte] | with_reducible refine vIf_t ?_ | with_reducible refine vIf_f ?_))
  refine vIf_dec (fun h => ?_) (fun h => ?_)
  · have hq := hf (gPc xs k) (gPc_mem xs k (by omega))
    unfold Pc.cells at hq
    (repeat (first | simp (maxSteps := 2000000) (disch := omega) only [go_sem, ↓reduceIte] | with_reducible refine vIf_t ?_ | with_reducible refine vIf_f ?_))
    refine vCallX_of ?_
    (repeat (first | simp (maxSteps := 2000000) (disch := omega) only [go_sem, ↓reduceIte] | with_reducible refine vIf_t ?_ | with_reducible refine vIf_f ?_))
    refine vCall_eq hq (by (repeat (first | simp (maxSteps := 2000000) (disch := omega) only [go_sem, ↓reduceIte, frzL_noref _ _ hc] | with_reducible refine vIf_t ?_ | with_reducible refine vIf_f ?_))) (by (repeat (first | simp (maxSteps := 2000000) (disch := omega) only [go_sem, ↓reduceIte, hc] | with_reducible refine vIf_t ?_ | with_reducible refine vIf_f ?_))) (Or.inl (by (repeat (first | simp (maxSteps := 2000000) (disch := omega) only [go_sem, ↓reduceIte, hc] | with_reducible refine vIf_t ?_ | with_reducible refine vIf_f ?_)))) ?_
    (repeat (first | simp (maxSteps := 2000000) (disch := omega) only [go_sem, ↓reduceIte] | with_reducible refine vIf_t ?_ | with_reducible refine vIf_f ?_))
    refine vIf_not (fun h3 => ?_) (fun h3 => ?_)
    · (repeat (first | simp (maxSteps := 2000000) (disch := omega) only [go_sem, ↓reduceIte] | with_reducible refine vIf_t ?_ | with_reducible refine vIf_f ?_))
      (refine retK_of ?_; (repeat (first | simp (maxSteps := 2000000) (disch := omega) only [go_sem, ↓reduceIte] | with_reducible refine vIf_t ?_ | with_reducible refine vIf_f ?_)))
      rw [allPc_no q xs k (by omega) h3]
    · (repeat (first | simp (maxSteps := 2000000) (disch := omega) only [go_sem, ↓reduceIte] | with_reducible refine vIf_t ?_ | with_reducible refine vIf_f ?_))
      refine again (k + 1) ⟨by omega, allPc_snoc q xs k (by omega) he h3⟩ (by omega) ?_
      (repeat (first | simp (maxSteps := 2000000) (disch := omega) only [go_sem, ↓reduceIte, killL_noref _ _ hc] | with_reducible refine vIf_t ?_ | with_reducible refine vIf_f ?_))
  · (repeat (first | simp (maxSteps := 2000000) (disch := omega) only [go_sem, ↓reduceIte] | with_reducible refine vIf_t ?_ | with_reducible refine vIf_f ?_))
    (refine retK_of ?_; (repeat (first | simp (maxSteps := 2000000) (disch := omega) only [go_sem, ↓reduceIte] | with_reducible refine vIf_t ?_ | with_reducible refine vIf_f ?_)))
    rw [List.take_of_length_le (by omega)] at he
    simp [he]
def prB (ds : List Pc) (k : Nat) : Bool := decide (∀ j, j < k → 0 < j → (gPc ds (j - 1)).id < (gPc ds j).id)
def okP (ds : List Pc) : Bool := prB ds ds.length && (decide (ds.length ≤ 60) && ds.all pcB)
theorem prB_succ (ds : List Pc) (k : Nat) : prB ds (k + 1) = (prB ds k && decide (0 < k → (gPc ds (k - 1)).id < (gPc ds k).id)) := by
  unfold prB
  rw [← Bool.decide_and]
  apply decide_eq_decide.2
  constructor
  · intro h; exact ⟨fun j h1 h0 => h j (by omega) h0, fun h0 => h k (by omega) h0⟩
  · rintro ⟨h1, h2⟩ j hj h0
    by_cases e : j = k
    · subst e; exact h2 h0
    · exact h1 j (by omega) h0
theorem prB_mono {ds : List Pc} {k m : Nat} (h : prB ds m = true) (hk : k ≤ m) : prB ds k = true :=
  decide_eq_true fun j hj h0 => of_decide_eq_true h j (by omega) h0
set_option maxHeartbeats 2000000 in
theorem validP_ok (ds : List Pc) (hl : ds.length ≤ 10000000) : ACalls Tryz.prog 27 [.sl ds.length (cPc ds)] [] (fun r o => r = B (okP ds) ∧ o = []) := by
  refine ACalls.of_vc Tryz.func27 rfl (by decide) 29 rfl [.tmp 2] rfl (by simp) ?_
  have hall := allPc_ok 76 [] pcB ds (fun x _ => isPc_ok x) rfl hl
  (repeat (first | simp (maxSteps := 2000000) (disch := omega) only [go_sem, ↓reduceIte] | with_reducible refine vIf_t ?_ | with_reducible refine vIf_f ?_))
  refine vcLoop_inv (fun k : Nat => 1 ≤ k ∧ (k ≤ ds.length ∨ k = 1) ∧ prB ds k = true) (fun k => ⟨29, 0, [(3, I k), (0, .sl ds.length (cPc ds))], []⟩) (fun k => ds.length - k) 1 ⟨by omega, by omega, decide_eq_true (by omega)⟩ (by ((repeat (first | simp (maxSteps := 2000000) (disch := omega) only [go_sem, ↓reduceIte] | with_reducible refine vIf_t ?_ | with_reducible refine vIf_f ?_)); all_goals (try simp); all_goals (try omega))) ?_
  intro k ⟨hk0, hk, he⟩
  (repeat (first | simp (maxSteps := 2000000) (disch := omega) only [go_sem, ↓reduceIte] | with_reducible refine vIf_t ?_ | with_reducible refine vIf_f ?_))
  refine vIf_dec (fun h => ?_) (fun h => ?_)
  · have hk1 : ((k : Int) - 1).toNat = k - 1 := by omega
    have hs := prB_succ ds k
    (repeat (first | simp (maxSteps := 2000000) (disch := omega) only [go_sem, ↓reduceIte] | with_reducible refine vIf_t ?_ | with_reducible refine vIf_f ?_))
    (refine vDraw_of mixed (by kernel_rfl) ?_; (repeat (first | simp (maxSteps := 2000000) (disch := omega) only [go_sem, ↓reduceIte] | with_reducible refine vIf_t ?_ | with_reducible refine vIf_f ?_)))
    (try (repeat (first | simp (maxSteps := 2000000) (disch := omega) only [go_sem, ↓reduceIte, hk1] | with_reducible refine vIf_t ?_ | with_reducible refine vIf_f ?_)))
    refine vIf_dec (fun h3 => ?_) (fun h3 => ?_)
    · (repeat (first | simp (maxSteps := 2000000) (disch := omega) only [go_sem, ↓reduceIte] | with_reducible refine vIf_t ?_ | with_reducible refine vIf_f ?_))
      (refine retK_of ?_; (repeat (first | simp (maxSteps := 2000000) (disch := omega) only [go_sem, ↓reduceIte] | with_reducible refine vIf_t ?_ | with_reducible refine vIf_f ?_)))
      rw [show okP ds = false from ?_]
      rw [okP, Bool.and_eq_false_iff]
      left
      refine decide_eq_false fun hh => ?_
      have := hh k (by omega) (by omega)
      omega
    · (repeat (first | simp (maxSteps := 2000000) (disch := omega) only [go_sem, ↓reduceIte] | with_reducible refine vIf_t ?_ | with_reducible refine vIf_f ?_))
      refine again (k + 1) ⟨by omega, by omega, ?_⟩ (by omega) ?_
      · rw [hs, he, Bool.true_and]
        exact decide_eq_true fun _ => by omega
      · ((repeat (first | simp (maxSteps := 2000000) (disch := omega) only [go_sem, ↓reduceIte] | with_reducible refine vIf_t ?_ | with_reducible refine vIf_f ?_)); all_goals (try simp); all_goals (try omega))
  · have hr : prB ds ds.length = true := prB_mono he (by omega)
    (repeat (first | simp (maxSteps := 2000000) (disch := omega) only [go_sem, ↓reduceIte] | with_reducible refine vIf_t ?_ | with_reducible refine vIf_f ?_))
    cases h6 : decide ((ds.length : Int) ≤ 60) with
    | false =>
      (try (repeat (first | simp (maxSteps := 2000000) (disch := omega) only [go_sem, ↓reduceIte, h6] | with_reducible refine vIf_t ?_ | with_reducible refine vIf_f ?_)))
      (refine retK_of ?_; (repeat (first | simp (maxSteps := 2000000) (disch := omega) only [go_sem, ↓reduceIte] | with_reducible refine vIf_t ?_ | with_reducible refine vIf_f ?_)))
      have := of_decide_eq_false h6
      simp [okP, show ¬ ds.length ≤ 60 by omega]
    | true =>
      (try (repeat (first | simp (maxSteps := 2000000) (disch := omega) only [go_sem, ↓reduceIte, h6] | with_reducible refine vIf_t ?_ | with_reducible refine vIf_f ?_)))
      (refine vCallX_of ?_; (repeat (first | simp (maxSteps := 2000000) (disch := omega) only [go_sem, ↓reduceIte] | with_reducible refine vIf_t ?_ | with_reducible refine vIf_f ?_)); refine vCall_eq (hall) (by simp (disch := omega) only [go_sem]) rfl (by first | exact Or.inl rfl | exact Or.inr ⟨rfl, rfl⟩ | (apply Or.inr; simp only [go_sem])) ?_; (repeat (first | simp (maxSteps := 2000000) (disch := omega) only [go_sem, ↓reduceIte] | with_reducible refine vIf_t ?_ | with_reducible refine vIf_f ?_)))
      (refine retK_of ?_; (repeat (first | simp (maxSteps := 2000000) (disch := omega) only [go_sem, ↓reduceIte] | with_reducible refine vIf_t ?_ | with_reducible refine vIf_f ?_)))
      have := of_decide_eq_true h6
      simp [okP, hr, show ds.length ≤ 60 by omega]
end Go.Proofs.YtbbdfifpncjpnaaGreatDoor

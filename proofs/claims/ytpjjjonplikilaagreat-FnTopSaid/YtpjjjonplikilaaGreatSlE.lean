/- parts of the proof of the law, sliced: what it needs of the texts Parcel2, LndD, Dut1, Parcel4, Dut2, SortB, StbA, Shr1. Conditions: none. -/
import Derived.Test.YtpjjjonplikilaaGreatSlA
import Derived.Test.YtpjjjonplikilaaGreatSlB
import Derived.Test.YtpjjjonplikilaaGreatSlC
import Derived.Test.YtpjjjonplikilaaGreatSlD
import Derived.Test.YtpjjjonplikilaaGreatAgZ
import Derived.Sort.Grow
import Derived.Test.YtpjjjonplikilaaGreatShelf
import Derived.Shelf.GgSortMore.Stable
import Derived.Deep.QuietTactic
set_option linter.unusedVariables false
set_option linter.unusedSimpArgs false
namespace Go.Proofs.YtpjjjonplikilaaGreat
open Go.AG

def pcB (p : Pc) : Bool := decide (1 ≤ p.id ∧ p.id ≤ 9999) && (decide (0 ≤ p.owner ∧ p.owner ≤ 39) && (decide (1 ≤ p.area ∧ p.area ≤ 10000000) && decide (0 ≤ p.cls ∧ p.cls ≤ 3)))
theorem isPcId_ok (n : Int) : ACalls Tryz.prog 107 [I n] [] (fun r o => r = B (decide (1 ≤ n ∧ n ≤ 9999)) ∧ o = []) := by
  refine ACalls.of_vc Tryz.func107 rfl (by decide) 5 rfl [.tmp 2] rfl (by simp) ?_
  (repeat (first | simp (maxSteps := 2000000) (disch := omega) only [go_sem, ↓reduceIte] | with_reducible refine vIf_t ?_ | with_reducible refine vIf_f ?_))
  (refine vCallX_of ?_; (repeat (first | simp (maxSteps := 2000000) (disch := omega) only [go_sem, ↓reduceIte] | with_reducible refine vIf_t ?_ | with_reducible refine vIf_f ?_)); refine vCall_eq (in_ok n 1 9999) (by simp (disch := omega) only [go_sem]) rfl (by first | exact Or.inl rfl | exact Or.inr ⟨rfl, rfl⟩ | (apply Or.inr; simp only [go_sem])) ?_; (repeat (first | simp (maxSteps := 2000000) (disch := omega) only [go_sem, ↓reduceIte] | with_reducible refine vIf_t ?_ | with_reducible refine vIf_f ?_)))
  (refine retK_of ?_; (repeat (first | simp (maxSteps := 2000000) (disch := omega) only [go_sem, ↓reduceIte] | with_reducible refine vIf_t ?_ | with_reducible refine vIf_f ?_)))
theorem isOwner_ok (n : Int) : ACalls Tryz.prog 59 [I n] [] (fun r o => r = B (decide (0 ≤ n ∧ n ≤ 39)) ∧ o = []) := by
  refine ACalls.of_vc Tryz.func59 rfl (by decide) 5 rfl [.tmp 2] rfl (by simp) ?_
  (repeat (first | simp (maxSteps := 2000000) (disch := omega) only [go_sem, ↓reduceIte] | with_reducible refine vIf_t ?_ | with_reducible refine vIf_f ?_))
  (refine vCallX_of ?_; (repeat (first | simp (maxSteps := 2000000) (disch := omega) only [go_sem, ↓reduceIte] | with_reducible refine vIf_t ?_ | with_reducible refine vIf_f ?_)); refine vCall_eq (in_ok n 0 39) (by simp (disch := omega) only [go_sem]) rfl (by first | exact Or.inl rfl | exact Or.inr ⟨rfl, rfl⟩ | (apply Or.inr; simp only [go_sem])) ?_; (repeat (first | simp (maxSteps := 2000000) (disch := omega) only [go_sem, ↓reduceIte] | with_reducible refine vIf_t ?_ | with_reducible refine vIf_f ?_)))
  (refine retK_of ?_; (repeat (first | simp (maxSteps := 2000000) (disch := omega) only [go_sem, ↓reduceIte] | with_reducible refine vIf_t ?_ | with_reducible refine vIf_f ?_)))
theorem isPcA_ok (n : Int) : ACalls Tryz.prog 108 [I n] [] (fun r o => r = B (decide (1 ≤ n ∧ n ≤ 10000000)) ∧ o = []) := by
  refine ACalls.of_vc Tryz.func108 rfl (by decide) 5 rfl [.tmp 2] rfl (by simp) ?_
  (repeat (first | simp (maxSteps := 2000000) (disch := omega) only [go_sem, ↓reduceIte] | with_reducible refine vIf_t ?_ | with_reducible refine vIf_f ?_))
  (refine vCallX_of ?_; (repeat (first | simp (maxSteps := 2000000) (disch := omega) only [go_sem, ↓reduceIte] | with_reducible refine vIf_t ?_ | with_reducible refine vIf_f ?_)); refine vCall_eq (in_ok n 1 10000000) (by simp (disch := omega) only [go_sem]) rfl (by first | exact Or.inl rfl | exact Or.inr ⟨rfl, rfl⟩ | (apply Or.inr; simp only [go_sem])) ?_; (repeat (first | simp (maxSteps := 2000000) (disch := omega) only [go_sem, ↓reduceIte] | with_reducible refine vIf_t ?_ | with_reducible refine vIf_f ?_)))
  (refine retK_of ?_; (repeat (first | simp (maxSteps := 2000000) (disch := omega) only [go_sem, ↓reduceIte] | with_reducible refine vIf_t ?_ | with_reducible refine vIf_f ?_)))
theorem isPc_ok (p : Pc) : ACalls Tryz.prog 92 [.agg p.cells] [] (fun r o => r = B (pcB p) ∧ o = []) := by
  refine ACalls.of_vc Tryz.func92 rfl (by decide) 21 rfl [.tmp 2] rfl (by simp) ?_
  unfold Pc.cells
  (repeat (first | simp (maxSteps := 2000000) (disch := omega) only [go_sem, ↓reduceIte] | with_reducible refine vIf_t ?_ | with_reducible refine vIf_f ?_))
  (refine vCallX_of ?_; (repeat (first | simp (maxSteps := 2000000) (disch := omega) only [go_sem, ↓reduceIte] | with_reducible refine vIf_t ?_ | with_reducible refine vIf_f ?_)); refine vCall_eq (isPcId_ok p.id) (by simp (disch := omega) only [go_sem]) rfl (by first | exact Or.inl rfl | exact Or.inr ⟨rfl, rfl⟩ | (apply Or.inr; simp only [go_sem])) ?_; (repeat (first | simp (maxSteps := 2000000) (disch := omega) only [go_sem, ↓reduceIte] | with_reducible refine vIf_t ?_ | with_reducible refine vIf_f ?_)))
  cases h1 : decide (1 ≤ p.id ∧ p.id ≤ 9999) with
  | false =>
    (try (repeat (first | simp (maxSteps := 2000000) (disch := omega) only [go_sem, ↓reduceIte, h1] | with_reducible refine vIf_t ?_ | with_reducible refine vIf_f ?_)))
    (refine retK_of ?_; (repeat (first | simp (maxSteps := 2000000) (disch := omega) only [go_sem, ↓reduceIte] | with_reducible refine vIf_t ?_ | with_reducible refine vIf_f ?_)))
    simp [pcB, h1]
  | true =>
    (try (repeat (first | simp (maxSteps := 2000000) (disch := omega) only [go_sem, ↓reduceIte, h1] | with_reducible refine vIf_t ?_ | with_reducible refine vIf_f ?_)))
    (refine vCallX_of ?_; (repeat (first | simp (maxSteps := 2000000) (disch := omega) only [go_sem, ↓reduceIte] | with_reducible refine vIf_t ?_ | with_reducible refine vIf_f ?_)); refine vCall_eq (isOwner_ok p.owner) (by simp (disch := omega) only [go_sem]) rfl (by first | exact Or.inl rfl | exact Or.inr ⟨rfl, rfl⟩ | (apply Or.inr; simp only [go_sem])) ?_; (repeat (first | simp (maxSteps := 2000000) (disch := omega) only [go_sem, ↓reduceIte] | with_reducible refine vIf_t ?_ | with_reducible refine vIf_f ?_)))
    cases h2 : decide (0 ≤ p.owner ∧ p.owner ≤ 39) with
    | false =>
      (try (repeat (first | simp (maxSteps := 2000000) (disch := omega) only [go_sem, ↓reduceIte, h2] | with_reducible refine vIf_t ?_ | with_reducible refine vIf_f ?_)))
      (refine retK_of ?_; (repeat (first | simp (maxSteps := 2000000) (disch := omega) only [go_sem, ↓reduceIte] | with_reducible refine vIf_t ?_ | with_reducible refine vIf_f ?_)))
      simp [pcB, h1, h2]
    | true =>
      (try (repeat (first | simp (maxSteps := 2000000) (disch := omega) only [go_sem, ↓reduceIte, h2] | with_reducible refine vIf_t ?_ | with_reducible refine vIf_f ?_)))
      (refine vCallX_of ?_; (repeat (first | simp (maxSteps := 2000000) (disch := omega) only [go_sem, ↓reduceIte] | with_reducible refine vIf_t ?_ | with_reducible refine vIf_f ?_)); refine vCall_eq (isPcA_ok p.area) (by simp (disch := omega) only [go_sem]) rfl (by first | exact Or.inl rfl | exact Or.inr ⟨rfl, rfl⟩ | (apply Or.inr; simp only [go_sem])) ?_; (repeat (first | simp (maxSteps := 2000000) (disch := omega) only [go_sem, ↓reduceIte] | with_reducible refine vIf_t ?_ | with_reducible refine vIf_f ?_)))
      cases h3 : decide (1 ≤ p.area ∧ p.area ≤ 10000000) with
      | false =>
        (try (repeat (first | simp (maxSteps := 2000000) (disch := omega) only [go_sem, ↓reduceIte, h3] | with_reducible refine vIf_t ?_ | with_reducible refine vIf_f ?_)))
        (refine retK_of ?_; (repeat (first | simp (maxSteps := 2000000) (disch := omega) only [go_sem, ↓reduceIte] | with_reducible refine vIf_t ?_ | with_reducible refine vIf_f ?_)))
        simp [pcB, h1, h2, h3]
      | true =>
        (try (repeat (first | simp (maxSteps := 2000000) (disch := omega) only [go_sem, ↓reduceIte, h3] | with_reducible refine vIf_t ?_ | with_reducible refine vIf_f ?_)))
        (refine vCallX_of ?_; (repeat (first | simp (maxSteps := 2000000) (disch := omega) only [go_sem, ↓reduceIte] | with_reducible refine vIf_t ?_ | with_reducible refine vIf_f ?_)); refine vCall_eq (in_ok p.cls 0 3) (by simp (disch := omega) only [go_sem]) rfl (by first | exact Or.inl rfl | exact Or.inr ⟨rfl, rfl⟩ | (apply Or.inr; simp only [go_sem])) ?_; (repeat (first | simp (maxSteps := 2000000) (disch := omega) only [go_sem, ↓reduceIte] | with_reducible refine vIf_t ?_ | with_reducible refine vIf_f ?_)))
        (refine retK_of ?_; (repeat (first | simp (maxSteps := 2000000) (disch := omega) only [go_sem, ↓reduceIte] | with_reducible refine vIf_t ?_ | with_reducible refine vIf_f ?_)))
        simp [pcB, h1, h2, h3]
theorem allPc_snoc (q : Pc → Bool) (xs : List Pc) (k : Nat) (h : k < xs.length) (he : (xs.take k).all q = true) (hq : q (gPc xs k) = true) : (xs.take (k + 1)).all q = true := by
  rw [gPc_take_succ xs k h, List.all_append, he]; simp [hq]
theorem allPc_no (q : Pc → Bool) (xs : List Pc) (k : Nat) (h : k < xs.length) (hq : q (gPc xs k) = false) : xs.all q = false := by
  rw [List.all_eq_false]
  exact ⟨gPc xs k, gPc_mem xs k h, by simp [hq]⟩
theorem allPc_ok (f : FuncId) (caps : List V) (q : Pc → Bool) (xs : List Pc) (hf : ∀ x ∈ xs, ACalls Tryz.prog f (.agg x.cells :: caps) [] (fun r o => r = B (q x) ∧ o = [])) (hc : V.norefL caps = true) (hl : xs.length ≤ 10000000) :
    ACalls Tryz.prog 91 [.sl xs.length (cPc xs), .fn f caps] [] (fun r o => r = B (xs.all q) ∧ o = []) := by
  refine ACalls.of_vc Tryz.func91 rfl (by decide) 18 rfl [.tmp 4] rfl (by simp) ?_
  (repeat (first | simp (maxSteps := 2000000) (disch := omega) only [go_sem, ↓reduceIte] | with_reducible refine vIf_t ?_ | with_reducible refine vIf_f ?_))
  refine vcLoop_inv (fun k : Nat => k ≤ xs.length ∧ (xs.take k).all q = true) (fun k => ⟨18, 0, [(9, I k), (8, I xs.length), (7, .sl xs.length (cPc xs)), (1, .fn f caps)], []⟩) (fun k => xs.length - k) 0 (by simp) (by (repeat (first | simp (maxSteps := 2000000) (disch := omega) only [go_sem, ↓reduceIte, killL_noref _ _ hc] | with_reducible refine vIf_t ?_ | with_reducible refine vIf_f ?_)); all_goals (try simp)) ?_
  intro k ⟨hk, he⟩
  (repeat (first | simp (maxSteps := 2000000) (disch := omega) only [go_sem, ↓reduceIte] | with_reducible refine vIf_t ?_ | with_reducible refine vIf_f ?_))
  refine vIf_dec (fun h => ?_) (fun h => ?_)
  · have hq := hf (gPc xs k) (gPc_mem xs k (by omega))
    unfold Pc.cells at hq
    (repeat (first | simp (maxSteps := 2000000) (disch := omega) only [go_sem, ↓reduceIte] | with_reducible refine vIf_t ?_ | with_reducible refine vIf_f ?_))
    refine vCallX_of ?_
    (repeat (first | simp (maxSteps := 2000000) (disch := omega) only [go_sem, ↓reduceIte] | with_reducible refine vIf_t ?_ | with_reducible refine vIf_f ?_))
    refine vCall_eq hq (by (repeat (first | simp (maxSteps := 2000000) (disch := omega) only [go_sem, ↓reduceIte, frzL_noref _ _ hc] | with_reducible refine vIf_t ?_ | with_reducible refine vIf_f ?_))) (by (repeat (first | simp (maxSteps := 2000000) (disch := omega) only [go_sem, ↓reduceIte, hc] | with_reducible refine vIf_t ?_ | with_reducible refine vIf_f ?_))) (Or.inl (by (repeat (first | simp (maxSteps := 2000000) (disch := omega) only [go_sem, ↓reduceIte, hc] | with_reducible refine vIf_t ?_ | with_reducible refine vIf_f ?_)))) ?_
    (repeat (first | simp (maxSteps := 2000000) (disch := omega) only [go_sem, ↓reduceIte] | with_reducible refine vIf_t ?_ | with_reducible refine vIf_f ?_))
    refine vIf_not (fun h3 => ?_) (fun h3 => ?_)
    · (repeat (first | simp (maxSteps := 2000000) (disch := omega) only [go_sem, ↓reduceIte] | with_reducible refine vIf_t ?_ | with_reducible refine vIf_f ?_))
      (refine retK_of ?_; (repeat (first | simp (maxSteps := 2000000) (disch := omega) only [go_sem, ↓reduceIte] | with_reducible refine vIf_t ?_ | with_reducible refine vIf_f ?_)))
      rw [allPc_no q xs k (by omega) h3]
    · (repeat (first | simp (maxSteps := 2000000) (disch := omega) only [go_sem, ↓reduceIte] | with_reducible refine vIf_t ?_ | with_reducible refine vIf_f ?_))
      refine again (k + 1) ⟨by omega, allPc_snoc q xs k (by omega) he h3⟩ (by omega) ?_
      (repeat (first | simp (maxSteps := 2000000) (disch := omega) only [go_sem, ↓reduceIte, killL_noref _ _ hc] | with_reducible refine vIf_t ?_ | with_reducible refine vIf_f ?_))
  · (repeat (first | simp (maxSteps := 2000000) (disch := omega) only [go_sem, ↓reduceIte] | with_reducible refine vIf_t ?_ | with_reducible refine vIf_f ?_))
    (refine retK_of ?_; (repeat (first | simp (maxSteps := 2000000) (disch := omega) only [go_sem, ↓reduceIte] | with_reducible refine vIf_t ?_ | with_reducible refine vIf_f ?_)))
    rw [List.take_of_length_le (by omega)] at he
    simp [he]
def prB (ds : List Pc) (k : Nat) : Bool := decide (∀ j, j < k → 0 < j → (gPc ds (j - 1)).id < (gPc ds j).id)
def okP (ds : List Pc) : Bool := prB ds ds.length && (decide (ds.length ≤ 60) && ds.all pcB)
theorem prB_succ (ds : List Pc) (k : Nat) : prB ds (k + 1) = (prB ds k && decide (0 < k → (gPc ds (k - 1)).id < (gPc ds k).id)) := by
  unfold prB
  rw [← Bool.decide_and]
  apply decide_eq_decide.2
  constructor
  · intro h; exact ⟨fun j h1 h0 => h j (by omega) h0, fun h0 => h k (by omega) h0⟩
  · rintro ⟨h1, h2⟩ j hj h0
    by_cases e : j = k
    · subst e; exact h2 h0
    · exact h1 j (by omega) h0
theorem prB_mono {ds : List Pc} {k m : Nat} (h : prB ds m = true) (hk : k ≤ m) : prB ds k = true :=
  decide_eq_true fun j hj h0 => of_decide_eq_true h j (by omega) h0
set_option maxHeartbeats 2000000 in
theorem validP_ok (ds : List Pc) (hl : ds.length ≤ 10000000) : ACalls Tryz.prog 53 [.sl ds.length (cPc ds)] [] (fun r o => r = B (okP ds) ∧ o = []) := by
  refine ACalls.of_vc Tryz.func53 rfl (by decide) 29 rfl [.tmp 2] rfl (by simp) ?_
  have hall := allPc_ok 92 [] pcB ds (fun x _ => isPc_ok x) rfl hl
  (repeat (first | simp (maxSteps := 2000000) (disch := omega) only [go_sem, ↓reduceIte] | with_reducible refine vIf_t ?_ | with_reducible refine vIf_f ?_))
  refine vcLoop_inv (fun k : Nat => 1 ≤ k ∧ (k ≤ ds.length ∨ k = 1) ∧ prB ds k = true) (fun k => ⟨29, 0, [(3, I k), (0, .sl ds.length (cPc ds))], []⟩) (fun k => ds.length - k) 1 ⟨by omega, by omega, decide_eq_true (by omega)⟩ (by ((repeat (first | simp (maxSteps := 2000000) (disch := omega) only [go_sem, ↓reduceIte] | with_reducible refine vIf_t ?_ | with_reducible refine vIf_f ?_)); all_goals (try simp); all_goals (try omega))) ?_
  intro k ⟨hk0, hk, he⟩
  (repeat (first | simp (maxSteps := 2000000) (disch := omega) only [go_sem, ↓reduceIte] | with_reducible refine vIf_t ?_ | with_reducible refine vIf_f ?_))
  refine vIf_dec (fun h => ?_) (fun h => ?_)
  · have hk1 : ((k : Int) - 1).toNat = k - 1 := by omega
    have hs := prB_succ ds k
    (repeat (first | simp (maxSteps := 2000000) (disch := omega) only [go_sem, ↓reduceIte] | with_reducible refine vIf_t ?_ | with_reducible refine vIf_f ?_))
    (refine vDraw_of mixed (by kernel_rfl) ?_; (repeat (first | simp (maxSteps := 2000000) (disch := omega) only [go_sem, ↓reduceIte] | with_reducible refine vIf_t ?_ | with_reducible refine vIf_f ?_)))
    (try (repeat (first | simp (maxSteps := 2000000) (disch := omega) only [go_sem, ↓reduceIte, hk1] | with_reducible refine vIf_t ?_ | with_reducible refine vIf_f ?_)))
    refine vIf_dec (fun h3 => ?_) (fun h3 => ?_)
    · (repeat (first | simp (maxSteps := 2000000) (disch := omega) only [go_sem, ↓reduceIte] | with_reducible refine vIf_t ?_ | with_reducible refine vIf_f ?_))
      (refine retK_of ?_; (repeat (first | simp (maxSteps := 2000000) (disch := omega) only [go_sem, ↓reduceIte] | with_reducible refine vIf_t ?_ | with_reducible refine vIf_f ?_)))
      rw [show okP ds = false from ?_]
      rw [okP, Bool.and_eq_false_iff]
      left
      refine decide_eq_false fun hh => ?_
      have := hh k (by omega) (by omega)
      omega
    · (repeat (first | simp (maxSteps := 2000000) (disch := omega) only [go_sem, ↓reduceIte] | with_reducible refine vIf_t ?_ | with_reducible refine vIf_f ?_))
      refine again (k + 1) ⟨by omega, by omega, ?_⟩ (by omega) ?_
      · rw [hs, he, Bool.true_and]
        exact decide_eq_true fun _ => by omega
      · ((repeat (first | simp (maxSteps := 2000000) (disch := omega) only [go_sem, ↓reduceIte] | with_reducible refine vIf_t ?_ | with_reducible refine vIf_f ?_)); all_goals (try simp); all_goals (try omega))
  · have hr : prB ds ds.length = true := prB_mono he (by omega)
    (repeat (first | simp (maxSteps := 2000000) (disch := omega) only [go_sem, ↓reduceIte] | with_reducible refine vIf_t ?_ | with_reducible refine vIf_f ?_))
    cases h6 : decide ((ds.length : Int) ≤ 60) with
    | false =>
      (try (repeat (first | simp (maxSteps := 2000000) (disch := omega) only [go_sem, ↓reduceIte, h6] | with_reducible refine vIf_t ?_ | with_reducible refine vIf_f ?_)))
      (refine retK_of ?_; (repeat (first | simp (maxSteps := 2000000) (disch := omega) only [go_sem, ↓reduceIte] | with_reducible refine vIf_t ?_ | with_reducible refine vIf_f ?_)))
      have := of_decide_eq_false h6
      simp [okP, show ¬ ds.length ≤ 60 by omega]
    | true =>
      (try (repeat (first | simp (maxSteps := 2000000) (disch := omega) only [go_sem, ↓reduceIte, h6] | with_reducible refine vIf_t ?_ | with_reducible refine vIf_f ?_)))
      (refine vCallX_of ?_; (repeat (first | simp (maxSteps := 2000000) (disch := omega) only [go_sem, ↓reduceIte] | with_reducible refine vIf_t ?_ | with_reducible refine vIf_f ?_)); refine vCall_eq (hall) (by simp (disch := omega) only [go_sem]) rfl (by first | exact Or.inl rfl | exact Or.inr ⟨rfl, rfl⟩ | (apply Or.inr; simp only [go_sem])) ?_; (repeat (first | simp (maxSteps := 2000000) (disch := omega) only [go_sem, ↓reduceIte] | with_reducible refine vIf_t ?_ | with_reducible refine vIf_f ?_)))
      (refine retK_of ?_; (repeat (first | simp (maxSteps := 2000000) (disch := omega) only [go_sem, ↓reduceIte] | with_reducible refine vIf_t ?_ | with_reducible refine vIf_f ?_)))
      have := of_decide_eq_true h6
      simp [okP, hr, show ds.length ≤ 60 by omega]
end Go.Proofs.YtpjjjonplikilaaGreat
namespace Go.Proofs.YtpjjjonplikilaaGreat
open Go.AG

attribute [local go_sem] beq_self_eq_true bne_self_eq_false Bool.not_true Bool.not_false
abbrev nilS : V := .sc (.slice none 0 0)
theorem l02DrawL_e {code : List Int} (g : SrOk code) (σ : Sr) (hp : σ.pos ≤ 10000000000) : ACalls Tryz.prog 101 [.ptr 0 0] [srO code σ] (fun r o => ∃ (v : Int) (σ' : Sr), r = I v ∧ o = [srO code σ'] ∧ σ'.pos ≤ σ.pos + 4) := by
  refine ACalls.of_vc Tryz.func101 rfl (by decide) 12 rfl [.tmp 2] rfl (by simp) ?_
  (repeat (first | simp (maxSteps := 2000000) (disch := omega) only [go_sem, ↓reduceIte] | with_reducible refine vIf_t ?_ | with_reducible refine vIf_f ?_))
  (refine vCallX_io [0] ?_; (repeat (first | simp (maxSteps := 2000000) (disch := omega) only [go_sem, ↓reduceIte] | with_reducible refine vIf_t ?_ | with_reducible refine vIf_f ?_)); refine vCallIO_ex (one_e g 8 σ (by omega)) (by simp (disch := omega) only [go_sem]) (by simp (disch := omega) only [go_sem]) (by first | rfl | (simp (disch := omega) only [go_sem])) (by first | rfl | (simp (disch := omega) only [go_sem])) (by first | rfl | (simp (disch := omega) only [go_sem])) ?_); rintro _ _ ⟨b, σ1, rfl, rfl, h1⟩; (refine ⟨by first | (simp (disch := omega) only [go_sem]) | trivial, ?_⟩; (repeat (first | simp (maxSteps := 2000000) (disch := omega) only [go_sem, ↓reduceIte] | with_reducible refine vIf_t ?_ | with_reducible refine vIf_f ?_)))
  refine vIf_bool (fun h => ?_) (fun h => ?_)
  · (repeat (first | simp (maxSteps := 2000000) (disch := omega) only [go_sem, ↓reduceIte] | with_reducible refine vIf_t ?_ | with_reducible refine vIf_f ?_))
    (refine vCallX_io [0] ?_; (repeat (first | simp (maxSteps := 2000000) (disch := omega) only [go_sem, ↓reduceIte] | with_reducible refine vIf_t ?_ | with_reducible refine vIf_f ?_)); refine vCallIO_ex (pick_e g 4001 σ1 (by omega)) (by simp (disch := omega) only [go_sem]) (by simp (disch := omega) only [go_sem]) (by first | rfl | (simp (disch := omega) only [go_sem])) (by first | rfl | (simp (disch := omega) only [go_sem])) (by first | rfl | (simp (disch := omega) only [go_sem])) ?_); rintro _ _ ⟨v, σ2, rfl, rfl, h2, h3, h4⟩; (refine ⟨by first | (simp (disch := omega) only [go_sem]) | trivial, ?_⟩; (repeat (first | simp (maxSteps := 2000000) (disch := omega) only [go_sem, ↓reduceIte] | with_reducible refine vIf_t ?_ | with_reducible refine vIf_f ?_)))
    (refine retK_of ?_; (repeat (first | simp (maxSteps := 2000000) (disch := omega) only [go_sem, ↓reduceIte] | with_reducible refine vIf_t ?_ | with_reducible refine vIf_f ?_)))
    exact ⟨_, σ2, rfl, rfl, by omega⟩
  · (repeat (first | simp (maxSteps := 2000000) (disch := omega) only [go_sem, ↓reduceIte] | with_reducible refine vIf_t ?_ | with_reducible refine vIf_f ?_))
    (refine vCallX_io [0] ?_; (repeat (first | simp (maxSteps := 2000000) (disch := omega) only [go_sem, ↓reduceIte] | with_reducible refine vIf_t ?_ | with_reducible refine vIf_f ?_)); refine vCallIO_ex (pick_e g 60 σ1 (by omega)) (by simp (disch := omega) only [go_sem]) (by simp (disch := omega) only [go_sem]) (by first | rfl | (simp (disch := omega) only [go_sem])) (by first | rfl | (simp (disch := omega) only [go_sem])) (by first | rfl | (simp (disch := omega) only [go_sem])) ?_); rintro _ _ ⟨v, σ2, rfl, rfl, h2, h3, h4⟩; (refine ⟨by first | (simp (disch := omega) only [go_sem]) | trivial, ?_⟩; (repeat (first | simp (maxSteps := 2000000) (disch := omega) only [go_sem, ↓reduceIte] | with_reducible refine vIf_t ?_ | with_reducible refine vIf_f ?_)))
    (refine retK_of ?_; (repeat (first | simp (maxSteps := 2000000) (disch := omega) only [go_sem, ↓reduceIte] | with_reducible refine vIf_t ?_ | with_reducible refine vIf_f ?_)))
    exact ⟨_, σ2, rfl, rfl, by omega⟩
theorem l02BentL_e {code : List Int} (g : SrOk code) (σ : Sr) (hp : σ.pos ≤ 1000000000) : ACalls Tryz.prog 67 [.ptr 0 0] [srO code σ] (fun r o => ∃ (v : Int) (σ' : Sr), r = I v ∧ o = [srO code σ'] ∧ σ'.pos ≤ σ.pos + 6) := by
  refine ACalls.of_vc Tryz.func67 rfl (by decide) 10 rfl [.tmp 2] rfl (by simp) ?_
  (repeat (first | simp (maxSteps := 2000000) (disch := omega) only [go_sem, ↓reduceIte] | with_reducible refine vIf_t ?_ | with_reducible refine vIf_f ?_))
  (refine vCallX_io [0] ?_; (repeat (first | simp (maxSteps := 2000000) (disch := omega) only [go_sem, ↓reduceIte] | with_reducible refine vIf_t ?_ | with_reducible refine vIf_f ?_)); refine vCallIO_ex (one_e g 5 σ (by omega)) (by simp (disch := omega) only [go_sem]) (by simp (disch := omega) only [go_sem]) (by first | rfl | (simp (disch := omega) only [go_sem])) (by first | rfl | (simp (disch := omega) only [go_sem])) (by first | rfl | (simp (disch := omega) only [go_sem])) ?_); rintro _ _ ⟨b, σ1, rfl, rfl, h1⟩; (refine ⟨by first | (simp (disch := omega) only [go_sem]) | trivial, ?_⟩; (repeat (first | simp (maxSteps := 2000000) (disch := omega) only [go_sem, ↓reduceIte] | with_reducible refine vIf_t ?_ | with_reducible refine vIf_f ?_)))
  refine vIf_bool (fun h => ?_) (fun h => ?_)
  · (repeat (first | simp (maxSteps := 2000000) (disch := omega) only [go_sem, ↓reduceIte] | with_reducible refine vIf_t ?_ | with_reducible refine vIf_f ?_))
    (refine vCallX_io [0, 1] ?_; (repeat (first | simp (maxSteps := 2000000) (disch := omega) only [go_sem, ↓reduceIte] | with_reducible refine vIf_t ?_ | with_reducible refine vIf_f ?_)); refine vCallIO_ex (among_l g [-2001, -2000, 0, 2000, 2001, -9223372036854775808, 9223372036854775807] σ1 (by omega) (by simp) _ rfl _ rfl) (by simp (disch := omega) only [go_sem]) (by simp (disch := omega) only [go_sem]) (by first | rfl | (simp (disch := omega) only [go_sem])) (by first | rfl | (simp (disch := omega) only [go_sem])) (by first | rfl | (simp (disch := omega) only [go_sem])) ?_); rintro _ _ ⟨v, σ2, rfl, rfl, h4, h5⟩; (refine ⟨by first | (simp (disch := omega) only [go_sem]) | trivial, ?_⟩; (repeat (first | simp (maxSteps := 2000000) (disch := omega) only [go_sem, ↓reduceIte] | with_reducible refine vIf_t ?_ | with_reducible refine vIf_f ?_)))
    (refine retK_of ?_; (repeat (first | simp (maxSteps := 2000000) (disch := omega) only [go_sem, ↓reduceIte] | with_reducible refine vIf_t ?_ | with_reducible refine vIf_f ?_)))
    exact ⟨_, σ2, rfl, rfl, by omega⟩
  · (repeat (first | simp (maxSteps := 2000000) (disch := omega) only [go_sem, ↓reduceIte] | with_reducible refine vIf_t ?_ | with_reducible refine vIf_f ?_))
    (refine vCallX_io [0] ?_; (repeat (first | simp (maxSteps := 2000000) (disch := omega) only [go_sem, ↓reduceIte] | with_reducible refine vIf_t ?_ | with_reducible refine vIf_f ?_)); refine vCallIO_ex (l02DrawL_e g σ1 (by omega)) (by simp (disch := omega) only [go_sem]) (by simp (disch := omega) only [go_sem]) (by first | rfl | (simp (disch := omega) only [go_sem])) (by first | rfl | (simp (disch := omega) only [go_sem])) (by first | rfl | (simp (disch := omega) only [go_sem])) ?_); rintro _ _ ⟨v, σ2, rfl, rfl, h2⟩; (refine ⟨by first | (simp (disch := omega) only [go_sem]) | trivial, ?_⟩; (repeat (first | simp (maxSteps := 2000000) (disch := omega) only [go_sem, ↓reduceIte] | with_reducible refine vIf_t ?_ | with_reducible refine vIf_f ?_)))
    (refine retK_of ?_; (repeat (first | simp (maxSteps := 2000000) (disch := omega) only [go_sem, ↓reduceIte] | with_reducible refine vIf_t ?_ | with_reducible refine vIf_f ?_)))
    exact ⟨_, σ2, rfl, rfl, by omega⟩
set_option maxRecDepth 20000 in
set_option maxHeartbeats 4000000 in
theorem l03Draw_e {code : List Int} (g : SrOk code) (σ : Sr) (hp : σ.pos ≤ 100000000) : ACalls Tryz.prog 104 [.ptr 0 0] [srO code σ]
    (fun r o => ∃ (a b : Int) (hs : List Int) (σ' : Sr), r = .agg [I a, I b, .ref 1 0 hs.length] ∧ o = [srO code σ', oI hs] ∧ (1 ≤ a ∧ a ≤ 12) ∧ (1 ≤ b ∧ b ≤ 12) ∧ (1 ≤ hs.length ∧ hs.length ≤ 144) ∧ σ'.pos ≤ σ.pos + 400) := by
  refine ACalls.of_vc Tryz.func104 rfl (by decide) 45 rfl [.cell 2 45] rfl (by simp) ?_
  (repeat (first | simp (maxSteps := 2000000) (disch := omega) only [go_sem, ↓reduceIte] | with_reducible refine vIf_t ?_ | with_reducible refine vIf_f ?_))
  (refine vCallX_io [0] ?_; (repeat (first | simp (maxSteps := 2000000) (disch := omega) only [go_sem, ↓reduceIte] | with_reducible refine vIf_t ?_ | with_reducible refine vIf_f ?_)); refine vCallIO_ex (pick_e g 5 σ (by omega)) (by simp (disch := omega) only [go_sem]) (by simp (disch := omega) only [go_sem]) (by first | rfl | (simp (disch := omega) only [go_sem])) (by first | rfl | (simp (disch := omega) only [go_sem])) (by first | rfl | (simp (disch := omega) only [go_sem])) ?_); rintro _ _ ⟨v1, σ1, rfl, rfl, h1, h2, h3⟩; (refine ⟨by first | (simp (disch := omega) only [go_sem]) | trivial, ?_⟩; (repeat (first | simp (maxSteps := 2000000) (disch := omega) only [go_sem, ↓reduceIte] | with_reducible refine vIf_t ?_ | with_reducible refine vIf_f ?_)))
  (refine vCallX_io [0] ?_; (repeat (first | simp (maxSteps := 2000000) (disch := omega) only [go_sem, ↓reduceIte] | with_reducible refine vIf_t ?_ | with_reducible refine vIf_f ?_)); refine vCallIO_ex (pick_e g 5 σ1 (by omega)) (by simp (disch := omega) only [go_sem]) (by simp (disch := omega) only [go_sem]) (by first | rfl | (simp (disch := omega) only [go_sem])) (by first | rfl | (simp (disch := omega) only [go_sem])) (by first | rfl | (simp (disch := omega) only [go_sem])) ?_); rintro _ _ ⟨v2, σ2, rfl, rfl, h4, h5, h6⟩; (refine ⟨by first | (simp (disch := omega) only [go_sem]) | trivial, ?_⟩; (repeat (first | simp (maxSteps := 2000000) (disch := omega) only [go_sem, ↓reduceIte] | with_reducible refine vIf_t ?_ | with_reducible refine vIf_f ?_)))
  (refine vCallX_io [0] ?_; (repeat (first | simp (maxSteps := 2000000) (disch := omega) only [go_sem, ↓reduceIte] | with_reducible refine vIf_t ?_ | with_reducible refine vIf_f ?_)); refine vCallIO_ex (one_e g 12 σ2 (by omega)) (by simp (disch := omega) only [go_sem]) (by simp (disch := omega) only [go_sem]) (by first | rfl | (simp (disch := omega) only [go_sem])) (by first | rfl | (simp (disch := omega) only [go_sem])) (by first | rfl | (simp (disch := omega) only [go_sem])) ?_); rintro _ _ ⟨b, σ3, rfl, rfl, h7⟩; (refine ⟨by first | (simp (disch := omega) only [go_sem]) | trivial, ?_⟩; (repeat (first | simp (maxSteps := 2000000) (disch := omega) only [go_sem, ↓reduceIte] | with_reducible refine vIf_t ?_ | with_reducible refine vIf_f ?_)))
  refine vIf_join (fun x : Int × Int × Sr => (1 ≤ x.1 ∧ x.1 ≤ 12) ∧ (1 ≤ x.2.1 ∧ x.2.1 ≤ 12) ∧ x.2.2.pos ≤ σ.pos + 10) (fun x => ⟨45, 1, [(0, .ptr 0 0), (2, .ptr 1 0), (3, .ptr 2 0)], [srO code x.2.2, some ⟨3, [I 0, I 0, nilS]⟩, some ⟨3, [I x.1, I x.2.1, nilS]⟩]⟩) (fun h => ?_) (fun h => ?_) ?_
  · (repeat (first | simp (maxSteps := 2000000) (disch := omega) only [go_sem, ↓reduceIte] | with_reducible refine vIf_t ?_ | with_reducible refine vIf_f ?_))
    (refine vCallX_io [0] ?_; (repeat (first | simp (maxSteps := 2000000) (disch := omega) only [go_sem, ↓reduceIte] | with_reducible refine vIf_t ?_ | with_reducible refine vIf_f ?_)); refine vCallIO_ex (pick_e g 12 σ3 (by omega)) (by simp (disch := omega) only [go_sem]) (by simp (disch := omega) only [go_sem]) (by first | rfl | (simp (disch := omega) only [go_sem])) (by first | rfl | (simp (disch := omega) only [go_sem])) (by first | rfl | (simp (disch := omega) only [go_sem])) ?_); rintro _ _ ⟨v3, σ4, rfl, rfl, h8, h9, h10⟩; (refine ⟨by first | (simp (disch := omega) only [go_sem]) | trivial, ?_⟩; (repeat (first | simp (maxSteps := 2000000) (disch := omega) only [go_sem, ↓reduceIte] | with_reducible refine vIf_t ?_ | with_reducible refine vIf_f ?_)))
    refine jnF ((12, 1 + v3, σ4)) ?_ (by (first | (refine leF_s ?_; ((repeat (first | simp (maxSteps := 2000000) (disch := omega) only [go_sem, ↓reduceIte] | with_reducible refine vIf_t ?_ | with_reducible refine vIf_f ?_)); all_goals (try simp); all_goals (try omega)); done) | (refine leF_p ?_; ((repeat (first | simp (maxSteps := 2000000) (disch := omega) only [go_sem, ↓reduceIte] | with_reducible refine vIf_t ?_ | with_reducible refine vIf_f ?_)); all_goals (try simp); all_goals (try omega)); done)))
    exact ⟨by simp only; omega, by simp only; omega, by simp only; omega⟩
  · (repeat (first | simp (maxSteps := 2000000) (disch := omega) only [go_sem, ↓reduceIte] | with_reducible refine vIf_t ?_ | with_reducible refine vIf_f ?_))
    refine jnF ((1 + v1, 1 + v2, σ3)) ?_ (by (first | (refine leF_s ?_; ((repeat (first | simp (maxSteps := 2000000) (disch := omega) only [go_sem, ↓reduceIte] | with_reducible refine vIf_t ?_ | with_reducible refine vIf_f ?_)); all_goals (try simp); all_goals (try omega)); done) | (refine leF_p ?_; ((repeat (first | simp (maxSteps := 2000000) (disch := omega) only [go_sem, ↓reduceIte] | with_reducible refine vIf_t ?_ | with_reducible refine vIf_f ?_)); all_goals (try simp); all_goals (try omega)); done)))
    exact ⟨by simp only; omega, by simp only; omega, by simp only; omega⟩
  rintro ⟨r, c, σ4⟩ ⟨g1, g2, g3⟩
  simp only at g1 g2 g3
  have hm := mul12 g1 g2
  (repeat (first | simp (maxSteps := 2000000) (disch := omega) only [go_sem, ↓reduceIte] | with_reducible refine vIf_t ?_ | with_reducible refine vIf_f ?_))
  (refine vCallX_io [0] ?_; (repeat (first | simp (maxSteps := 2000000) (disch := omega) only [go_sem, ↓reduceIte] | with_reducible refine vIf_t ?_ | with_reducible refine vIf_f ?_)); refine vCallIO_ex (pick_e g 30 σ4 (by omega)) (by simp (disch := omega) only [go_sem]) (by simp (disch := omega) only [go_sem]) (by first | rfl | (simp (disch := omega) only [go_sem])) (by first | rfl | (simp (disch := omega) only [go_sem])) (by first | rfl | (simp (disch := omega) only [go_sem])) ?_); rintro _ _ ⟨v4, σ5, rfl, rfl, h11, h12, h13⟩; (refine ⟨by first | (simp (disch := omega) only [go_sem]) | trivial, ?_⟩; (repeat (first | simp (maxSteps := 2000000) (disch := omega) only [go_sem, ↓reduceIte] | with_reducible refine vIf_t ?_ | with_reducible refine vIf_f ?_)))
  obtain ⟨n, hn⟩ : ∃ n : Int, n = r * c := ⟨_, rfl⟩
  rw [← hn] at hm
  (try (repeat (first | simp (maxSteps := 2000000) (disch := omega) only [go_sem, ↓reduceIte, ← hn] | with_reducible refine vIf_t ?_ | with_reducible refine vIf_f ?_)))
  refine vcLoop_invF (fun x : Option (List Int) × Sr × Int => match x.1 with | none => (1 ≤ x.2.2 ∧ x.2.2 ≤ 144) ∧ x.2.1.pos + 2 * x.2.2.toNat ≤ σ.pos + 300 | some hs => 1 ≤ hs.length ∧ 0 ≤ x.2.2 ∧ (hs.length : Int) + x.2.2 ≤ 144 ∧ x.2.1.pos + 2 * x.2.2.toNat ≤ σ.pos + 300)
    (fun x => match x.1 with
      | none => ⟨45, 1, [(5, I x.2.2), (0, .ptr 0 0), (2, .ptr 1 0), (3, .ptr 2 0), (4, I (10 * v4 - 200))], [srO code x.2.1, some ⟨3, [I 0, I 0, nilS]⟩, some ⟨3, [I r, I c, nilS]⟩]⟩
      | some hs => ⟨45, 1, [(5, I x.2.2), (0, .ptr 0 0), (2, .ptr 1 0), (3, .ptr 2 0), (4, I (10 * v4 - 200))], [srO code x.2.1, some ⟨3, [I 0, I 0, nilS]⟩, some ⟨3, [I r, I c, .ref 3 0 hs.length]⟩, oI hs]⟩)
    (fun x => x.2.2.toNat) (none, σ5, n) ⟨by simp only; omega, by simp only; omega⟩ (by (first | (refine leF_s ?_; ((repeat (first | simp (maxSteps := 2000000) (disch := omega) only [go_sem, ↓reduceIte] | with_reducible refine vIf_t ?_ | with_reducible refine vIf_f ?_)); all_goals (try simp); all_goals (try omega)); done) | (refine leF_p ?_; ((repeat (first | simp (maxSteps := 2000000) (disch := omega) only [go_sem, ↓reduceIte] | with_reducible refine vIf_t ?_ | with_reducible refine vIf_f ?_)); all_goals (try simp); all_goals (try omega)); done))) ?_
  rintro ⟨x, σ6, k⟩ hx
  cases x with
  | none =>
    obtain ⟨q1, q2⟩ := hx
    simp only at q1 q2
    have d5 : decide (0 < k) = true := decide_eq_true (by omega)
    (repeat (first | simp (maxSteps := 2000000) (disch := omega) only [go_sem, ↓reduceIte] | with_reducible refine vIf_t ?_ | with_reducible refine vIf_f ?_))
    (try (repeat (first | simp (maxSteps := 2000000) (disch := omega) only [go_sem, ↓reduceIte, d5] | with_reducible refine vIf_t ?_ | with_reducible refine vIf_f ?_)))
    (refine vDraw_sch 8 [(0, false), (2, false), (3, false), (1, false), (4, false), (5, false), (6, false), (7, false)] mixed (by kernel_rfl) ?_; simp only [List.cons_append, List.nil_append, List.map_cons, List.map_nil, nthO_zero, nthO_succ, List.drop_succ_cons, List.drop_zero, List.drop_nil]; (repeat (first | simp (maxSteps := 2000000) (disch := omega) only [go_sem, ↓reduceIte] | with_reducible refine vIf_t ?_ | with_reducible refine vIf_f ?_)))
    (refine vsCallX_io [0] (by simp [disj]) ?_; (try (repeat (first | simp (maxSteps := 2000000) (disch := omega) only [go_sem, ↓reduceIte] | with_reducible refine vIf_t ?_ | with_reducible refine vIf_f ?_))); refine vCallIO_ex (pick_e g 12 σ6 (by omega)) (by simp (disch := omega) only [go_sem]) (by simp (disch := omega) only [go_sem]) (by first | rfl | (simp (disch := omega) only [go_sem])) (by first | rfl | (simp (disch := omega) only [go_sem])) (by first | rfl | (simp (disch := omega) only [go_sem])) ?_); rintro _ _ ⟨v5, σ7, rfl, rfl, h14, h15, h16⟩; (refine ⟨by first | (simp (disch := omega) only [go_sem]) | trivial, ?_⟩; (try (repeat (first | simp (maxSteps := 2000000) (disch := omega) only [go_sem, ↓reduceIte] | with_reducible refine vIf_t ?_ | with_reducible refine vIf_f ?_))))
    (try (repeat (first | simp (maxSteps := 2000000) (disch := omega) only [go_sem, ↓reduceIte] | with_reducible refine vIf_t ?_ | with_reducible refine vIf_f ?_)))
    refine againF ((some [10 * v4 - 200 + 10 * v5], σ7, k - 1)) ?_ ?_ (by (first | (refine leF_s ?_; ((repeat (first | simp (maxSteps := 2000000) (disch := omega) only [go_sem, ↓reduceIte] | with_reducible refine vIf_t ?_ | with_reducible refine vIf_f ?_)); all_goals (try simp); all_goals (try omega)); done) | (refine leF_p ?_; ((repeat (first | simp (maxSteps := 2000000) (disch := omega) only [go_sem, ↓reduceIte] | with_reducible refine vIf_t ?_ | with_reducible refine vIf_f ?_)); all_goals (try simp); all_goals (try omega)); done)))
    · exact ⟨by simp, by simp only; omega, by simp; omega, by simp only; omega⟩
    · simp only; omega
  | some hs =>
    obtain ⟨q0, q1, q2, q3⟩ := hx
    simp only at q0 q1 q2 q3
    (repeat (first | simp (maxSteps := 2000000) (disch := omega) only [go_sem, ↓reduceIte] | with_reducible refine vIf_t ?_ | with_reducible refine vIf_f ?_))
    refine vIf_dec (fun h => ?_) (fun h => ?_)
    · (repeat (first | simp (maxSteps := 2000000) (disch := omega) only [go_sem, ↓reduceIte] | with_reducible refine vIf_t ?_ | with_reducible refine vIf_f ?_))
      (refine vDraw_sch 8 [(0, false), (2, false), (3, false), (1, false), (4, false), (5, false), (6, false), (7, false)] mixed (by kernel_rfl) ?_; simp only [List.cons_append, List.nil_append, List.map_cons, List.map_nil, nthO_zero, nthO_succ, List.drop_succ_cons, List.drop_zero, List.drop_nil]; (repeat (first | simp (maxSteps := 2000000) (disch := omega) only [go_sem, ↓reduceIte] | with_reducible refine vIf_t ?_ | with_reducible refine vIf_f ?_)))
      (refine vsCallX_io [0] (by simp [disj]) ?_; (try (repeat (first | simp (maxSteps := 2000000) (disch := omega) only [go_sem, ↓reduceIte] | with_reducible refine vIf_t ?_ | with_reducible refine vIf_f ?_))); refine vCallIO_ex (pick_e g 12 σ6 (by omega)) (by simp (disch := omega) only [go_sem]) (by simp (disch := omega) only [go_sem]) (by first | rfl | (simp (disch := omega) only [go_sem])) (by first | rfl | (simp (disch := omega) only [go_sem])) (by first | rfl | (simp (disch := omega) only [go_sem])) ?_); rintro _ _ ⟨v5, σ7, rfl, rfl, h14, h15, h16⟩; (refine ⟨by first | (simp (disch := omega) only [go_sem]) | trivial, ?_⟩; (try (repeat (first | simp (maxSteps := 2000000) (disch := omega) only [go_sem, ↓reduceIte] | with_reducible refine vIf_t ?_ | with_reducible refine vIf_f ?_))))
      (try (repeat (first | simp (maxSteps := 2000000) (disch := omega) only [go_sem, ↓reduceIte] | with_reducible refine vIf_t ?_ | with_reducible refine vIf_f ?_)))
      refine againF ((some (hs ++ [10 * v4 - 200 + 10 * v5]), σ7, k - 1)) ?_ ?_ (by (first | (refine leF_s ?_; ((repeat (first | simp (maxSteps := 2000000) (disch := omega) only [go_sem, ↓reduceIte] | with_reducible refine vIf_t ?_ | with_reducible refine vIf_f ?_)); all_goals (try simp); all_goals (try omega)); done) | (refine leF_p ?_; ((repeat (first | simp (maxSteps := 2000000) (disch := omega) only [go_sem, ↓reduceIte] | with_reducible refine vIf_t ?_ | with_reducible refine vIf_f ?_)); all_goals (try simp); all_goals (try omega)); done)))
      · exact ⟨by simp, by simp only; omega, by simp; omega, by simp only; omega⟩
      · simp only; omega
    · (repeat (first | simp (maxSteps := 2000000) (disch := omega) only [go_sem, ↓reduceIte] | with_reducible refine vIf_t ?_ | with_reducible refine vIf_f ?_))
      (refine retK_of ?_; (repeat (first | simp (maxSteps := 2000000) (disch := omega) only [go_sem, ↓reduceIte] | with_reducible refine vIf_t ?_ | with_reducible refine vIf_f ?_)))
      exact ⟨r, c, hs, σ6, rfl, rfl, g1, g2, by omega, by omega⟩
set_option maxRecDepth 20000 in
set_option maxHeartbeats 4000000 in
theorem l03Bent_e {code : List Int} (g : SrOk code) (σ : Sr) (hp : σ.pos ≤ 10000000) : ACalls Tryz.prog 74 [.ptr 0 0] [srO code σ]
    (fun r o => ∃ (a b : Int) (hs : List Int) (σ' : Sr), r = .agg [I a, I b, .ref 1 0 hs.length] ∧ o = [srO code σ', oI hs] ∧ (1 ≤ hs.length ∧ hs.length ≤ 145) ∧ σ'.pos ≤ σ.pos + 500) := by
  refine ACalls.of_vc Tryz.func74 rfl (by decide) 46 rfl [.cell 2 45] rfl (by simp) ?_
  (repeat (first | simp (maxSteps := 2000000) (disch := omega) only [go_sem, ↓reduceIte] | with_reducible refine vIf_t ?_ | with_reducible refine vIf_f ?_))
  (refine vCallX_io [0] ?_; (repeat (first | simp (maxSteps := 2000000) (disch := omega) only [go_sem, ↓reduceIte] | with_reducible refine vIf_t ?_ | with_reducible refine vIf_f ?_)); refine vCallIO_ex (l03Draw_e g σ (by omega)) (by simp (disch := omega) only [go_sem]) (by simp (disch := omega) only [go_sem]) (by first | rfl | (simp (disch := omega) only [go_sem])) (by first | rfl | (simp (disch := omega) only [go_sem])) (by first | rfl | (simp (disch := omega) only [go_sem])) ?_); rintro _ _ ⟨a, b, hs, σ1, rfl, rfl, n1, n2, n3, n4⟩; (refine ⟨by first | (simp (disch := omega) only [go_sem]) | trivial, ?_⟩; (repeat (first | simp (maxSteps := 2000000) (disch := omega) only [go_sem, ↓reduceIte] | with_reducible refine vIf_t ?_ | with_reducible refine vIf_f ?_)))
  (refine vCallX_io [0] ?_; (repeat (first | simp (maxSteps := 2000000) (disch := omega) only [go_sem, ↓reduceIte] | with_reducible refine vIf_t ?_ | with_reducible refine vIf_f ?_)); refine vCallIO_ex (pick_e g 20 σ1 (by omega)) (by simp (disch := omega) only [go_sem]) (by simp (disch := omega) only [go_sem]) (by first | rfl | (simp (disch := omega) only [go_sem])) (by first | rfl | (simp (disch := omega) only [go_sem])) (by first | rfl | (simp (disch := omega) only [go_sem])) ?_); rintro _ _ ⟨v1, σ2, rfl, rfl, h1, h2, h3⟩; (refine ⟨by first | (simp (disch := omega) only [go_sem]) | trivial, ?_⟩; (repeat (first | simp (maxSteps := 2000000) (disch := omega) only [go_sem, ↓reduceIte] | with_reducible refine vIf_t ?_ | with_reducible refine vIf_f ?_)))
  refine vIf_beq (fun h => ?_) (fun h => ?_)
  · (repeat (first | simp (maxSteps := 2000000) (disch := omega) only [go_sem, ↓reduceIte] | with_reducible refine vIf_t ?_ | with_reducible refine vIf_f ?_))
    (refine vCallX_io [0, 4] ?_; (repeat (first | simp (maxSteps := 2000000) (disch := omega) only [go_sem, ↓reduceIte] | with_reducible refine vIf_t ?_ | with_reducible refine vIf_f ?_)); refine vCallIO_ex (among_l g [-1, 0, a + 1, 13, -9223372036854775808] σ2 (by omega) (by simp) _ rfl _ rfl) (by simp (disch := omega) only [go_sem]) (by simp (disch := omega) only [go_sem]) (by first | rfl | (simp (disch := omega) only [go_sem])) (by first | rfl | (simp (disch := omega) only [go_sem])) (by first | rfl | (simp (disch := omega) only [go_sem])) ?_); rintro _ _ ⟨v, σ3, rfl, rfl, h4, h5⟩; (refine ⟨by first | (simp (disch := omega) only [go_sem]) | trivial, ?_⟩; (repeat (first | simp (maxSteps := 2000000) (disch := omega) only [go_sem, ↓reduceIte] | with_reducible refine vIf_t ?_ | with_reducible refine vIf_f ?_)))
    (refine retK_of ?_; (repeat (first | simp (maxSteps := 2000000) (disch := omega) only [go_sem, ↓reduceIte] | with_reducible refine vIf_t ?_ | with_reducible refine vIf_f ?_)))
    exact ⟨v, b, hs, σ3, rfl, rfl, by omega, by omega⟩
  (repeat (first | simp (maxSteps := 2000000) (disch := omega) only [go_sem, ↓reduceIte] | with_reducible refine vIf_t ?_ | with_reducible refine vIf_f ?_))
  refine vIf_beq (fun h => ?_) (fun h => ?_)
  · (repeat (first | simp (maxSteps := 2000000) (disch := omega) only [go_sem, ↓reduceIte] | with_reducible refine vIf_t ?_ | with_reducible refine vIf_f ?_))
    (refine vCallX_io [0, 4] ?_; (repeat (first | simp (maxSteps := 2000000) (disch := omega) only [go_sem, ↓reduceIte] | with_reducible refine vIf_t ?_ | with_reducible refine vIf_f ?_)); refine vCallIO_ex (among_l g [-1, 0, b + 1, 13] σ2 (by omega) (by simp) _ rfl _ rfl) (by simp (disch := omega) only [go_sem]) (by simp (disch := omega) only [go_sem]) (by first | rfl | (simp (disch := omega) only [go_sem])) (by first | rfl | (simp (disch := omega) only [go_sem])) (by first | rfl | (simp (disch := omega) only [go_sem])) ?_); rintro _ _ ⟨v, σ3, rfl, rfl, h4, h5⟩; (refine ⟨by first | (simp (disch := omega) only [go_sem]) | trivial, ?_⟩; (repeat (first | simp (maxSteps := 2000000) (disch := omega) only [go_sem, ↓reduceIte] | with_reducible refine vIf_t ?_ | with_reducible refine vIf_f ?_)))
    (refine retK_of ?_; (repeat (first | simp (maxSteps := 2000000) (disch := omega) only [go_sem, ↓reduceIte] | with_reducible refine vIf_t ?_ | with_reducible refine vIf_f ?_)))
    exact ⟨a, v, hs, σ3, rfl, rfl, by omega, by omega⟩
  (repeat (first | simp (maxSteps := 2000000) (disch := omega) only [go_sem, ↓reduceIte] | with_reducible refine vIf_t ?_ | with_reducible refine vIf_f ?_))
  refine vIf_beq (fun h => ?_) (fun h => ?_)
  · (repeat (first | simp (maxSteps := 2000000) (disch := omega) only [go_sem, ↓reduceIte] | with_reducible refine vIf_t ?_ | with_reducible refine vIf_f ?_))
    (refine vDraw_sch 9 [(0, false), (2, false), (3, false), (7, false), (1, false), (4, true), (5, false), (6, false), (8, false)] mixed (by kernel_rfl) ?_; simp only [List.cons_append, List.nil_append, List.map_cons, List.map_nil, nthO_zero, nthO_succ, List.drop_succ_cons, List.drop_zero, List.drop_nil]; (repeat (first | simp (maxSteps := 2000000) (disch := omega) only [go_sem, ↓reduceIte] | with_reducible refine vIf_t ?_ | with_reducible refine vIf_f ?_)))
    (refine vsCallX_io [0] (by simp [disj]) ?_; (try (repeat (first | simp (maxSteps := 2000000) (disch := omega) only [go_sem, ↓reduceIte] | with_reducible refine vIf_t ?_ | with_reducible refine vIf_f ?_))); refine vCallIO_ex (pick_e g hs.length σ2 (by omega)) (by simp (disch := omega) only [go_sem]) (by simp (disch := omega) only [go_sem]) (by first | rfl | (simp (disch := omega) only [go_sem])) (by first | rfl | (simp (disch := omega) only [go_sem])) (by first | rfl | (simp (disch := omega) only [go_sem])) ?_); rintro _ _ ⟨v, σ3, rfl, rfl, h4, h5, h6⟩; (refine ⟨by first | (simp (disch := omega) only [go_sem]) | trivial, ?_⟩; (try (repeat (first | simp (maxSteps := 2000000) (disch := omega) only [go_sem, ↓reduceIte] | with_reducible refine vIf_t ?_ | with_reducible refine vIf_f ?_))))
    (refine vsCallX_io [0] (by simp [disj]) ?_; (try (repeat (first | simp (maxSteps := 2000000) (disch := omega) only [go_sem, ↓reduceIte] | with_reducible refine vIf_t ?_ | with_reducible refine vIf_f ?_))); refine vCallIO_ex (l02BentL_e g σ3 (by omega)) (by simp (disch := omega) only [go_sem]) (by simp (disch := omega) only [go_sem]) (by first | rfl | (simp (disch := omega) only [go_sem])) (by first | rfl | (simp (disch := omega) only [go_sem])) (by first | rfl | (simp (disch := omega) only [go_sem])) ?_); rintro _ _ ⟨u, σ4, rfl, rfl, h7⟩; (refine ⟨by first | (simp (disch := omega) only [go_sem]) | trivial, ?_⟩; (try (repeat (first | simp (maxSteps := 2000000) (disch := omega) only [go_sem, ↓reduceIte] | with_reducible refine vIf_t ?_ | with_reducible refine vIf_f ?_))))
    have hv : v.toNat < hs.length := by omega
    (try (repeat (first | simp (maxSteps := 2000000) (disch := omega) only [go_sem, ↓reduceIte] | with_reducible refine vIf_t ?_ | with_reducible refine vIf_f ?_)))
    (refine retK_of ?_; (repeat (first | simp (maxSteps := 2000000) (disch := omega) only [go_sem, ↓reduceIte] | with_reducible refine vIf_t ?_ | with_reducible refine vIf_f ?_)))
    exact ⟨a, b, hs.set v.toNat u, σ4, by simp, by simp, by simp; omega, by omega⟩
  (repeat (first | simp (maxSteps := 2000000) (disch := omega) only [go_sem, ↓reduceIte] | with_reducible refine vIf_t ?_ | with_reducible refine vIf_f ?_))
  refine vIf_beq (fun h => ?_) (fun h => ?_)
  · (repeat (first | simp (maxSteps := 2000000) (disch := omega) only [go_sem, ↓reduceIte] | with_reducible refine vIf_t ?_ | with_reducible refine vIf_f ?_))
    (refine retK_of ?_; (repeat (first | simp (maxSteps := 2000000) (disch := omega) only [go_sem, ↓reduceIte] | with_reducible refine vIf_t ?_ | with_reducible refine vIf_f ?_)))
    exact ⟨a, b, hs ++ [0], σ2, by simp, by simp, by simp; omega, by omega⟩
  · (repeat (first | simp (maxSteps := 2000000) (disch := omega) only [go_sem, ↓reduceIte] | with_reducible refine vIf_t ?_ | with_reducible refine vIf_f ?_))
    (refine retK_of ?_; (repeat (first | simp (maxSteps := 2000000) (disch := omega) only [go_sem, ↓reduceIte] | with_reducible refine vIf_t ?_ | with_reducible refine vIf_f ?_)))
    exact ⟨a, b, hs, σ2, rfl, rfl, by omega, by omega⟩
end Go.Proofs.YtpjjjonplikilaaGreat
namespace Go.Proofs.YtpjjjonplikilaaGreat
open Go.AG

structure Du where
  owner : Int
  fr : Int
  tw : Int
  deriving Inhabited, DecidableEq
def Du.cells (d : Du) : List V := [.sc (.int .i64 d.owner), .sc (.int .i64 d.fr), .sc (.int .i64 d.tw)]
def cDu (ds : List Du) : List V := ds.flatMap Du.cells
def gDu (ds : List Du) (i : Nat) : Du := ds.getD i default
theorem gDu_lt (ds : List Du) (i : Nat) (h : i < ds.length) : gDu ds i = ds[i] := by simp [gDu, h]
theorem gDu_set_same (ds : List Du) (i : Nat) (d : Du) (h : i < ds.length) : gDu (ds.set i d) i = d := by simp [gDu, h]
theorem gDu_app_l (xs ys : List Du) (i : Nat) (h : i < xs.length) : gDu (xs ++ ys) i = gDu xs i := by simp [gDu, List.getElem?_append_left h]
theorem gDu_app_r (xs ys : List Du) (i : Nat) (h : xs.length ≤ i) : gDu (xs ++ ys) i = gDu ys (i - xs.length) := by simp [gDu, List.getElem?_append_right h]
@[go_sem] theorem length_cDu (ds : List Du) : (cDu ds).length = ds.length * 3 := (rsLen Du.cells 3 (fun _ => rfl) ds)
@[go_sem] theorem cDu_nil : cDu [] = [] := rfl
@[go_sem] theorem cDu_append (xs ys : List Du) : cDu xs ++ cDu ys = cDu (xs ++ ys) := by simp [cDu]
@[go_sem] theorem cDu_snoc (xs : List Du) (owner : Int) (fr : Int) (tw : Int) : cDu xs ++ [.sc (.int .i64 owner), .sc (.int .i64 fr), .sc (.int .i64 tw)] = cDu (xs ++ [⟨owner, fr, tw⟩]) := by simp [cDu, Du.cells]
@[go_sem] theorem cDu_take (ds : List Du) (n : Nat) : (cDu ds).take (n * 3) = cDu (ds.take n) := rsTake Du.cells 3 (fun _ => rfl) ds n
@[go_sem] theorem cDu_take_all (ds : List Du) (n : Nat) (h : ds.length * 3 ≤ n) : (cDu ds).take n = cDu ds := List.take_of_length_le (by rw [length_cDu]; exact h)
@[go_sem] theorem cDu_drop (ds : List Du) (n : Nat) : (cDu ds).drop (n * 3) = cDu (ds.drop n) := rsDrop Du.cells 3 (fun _ => rfl) ds n
@[go_sem high] theorem vPart_cDu (ds : List Du) (i : Nat) (K : V → Prop) : vPart true 3 (cDu ds) (i * 3) K = grd (i < ds.length) (K (.agg [.sc (.int .i64 (gDu ds i).owner), .sc (.int .i64 (gDu ds i).fr), .sc (.int .i64 (gDu ds i).tw)])) := rsPart Du.cells 3 (fun _ => rfl) (by omega) ds i K
@[go_sem] theorem cDu_at (ds : List Du) (n : Nat) (h : n < ds.length) : (cDu (ds.drop n)).take 3 = [.sc (.int .i64 (gDu ds n).owner), .sc (.int .i64 (gDu ds n).fr), .sc (.int .i64 (gDu ds n).tw)] := by rw [List.drop_eq_getElem_cons h, gDu_lt ds n h]; rfl
@[go_sem] theorem cDu_at0 (ds : List Du) (h : 0 < ds.length) : (cDu ds).take 3 = [.sc (.int .i64 (gDu ds 0).owner), .sc (.int .i64 (gDu ds 0).fr), .sc (.int .i64 (gDu ds 0).tw)] := by cases ds with | nil => simp at h | cons x r => rfl
@[go_sem] theorem vAt_cDu_0 (ds : List Du) (i : Nat) (K : V → Prop) : vAt (cDu ds) (i * 3) K = grd (i < ds.length) (K (.sc (.int .i64 (gDu ds i).owner))) := rsAt Du.cells 3 (fun _ => rfl) ds i 0 (by omega) (fun d => .sc (.int .i64 d.owner)) (fun _ => rfl) K
@[go_sem] theorem wr_cDu_0 (ds : List Du) (i : Nat) (x : Int) (h : i < ds.length) : wr (cDu ds) (i * 3) [.sc (.int .i64 x)] = cDu (ds.set i {gDu ds i with owner := x}) := rsWr Du.cells 3 (fun _ => rfl) ds i 0 (by omega) h _ _ rfl
@[go_sem] theorem vAt_cDu_1 (ds : List Du) (i : Nat) (K : V → Prop) : vAt (cDu ds) (i * 3 + 1) K = grd (i < ds.length) (K (.sc (.int .i64 (gDu ds i).fr))) := rsAt Du.cells 3 (fun _ => rfl) ds i 1 (by omega) (fun d => .sc (.int .i64 d.fr)) (fun _ => rfl) K
@[go_sem] theorem wr_cDu_1 (ds : List Du) (i : Nat) (x : Int) (h : i < ds.length) : wr (cDu ds) (i * 3 + 1) [.sc (.int .i64 x)] = cDu (ds.set i {gDu ds i with fr := x}) := rsWr Du.cells 3 (fun _ => rfl) ds i 1 (by omega) h _ _ rfl
@[go_sem] theorem vAt_cDu_2 (ds : List Du) (i : Nat) (K : V → Prop) : vAt (cDu ds) (i * 3 + 2) K = grd (i < ds.length) (K (.sc (.int .i64 (gDu ds i).tw))) := rsAt Du.cells 3 (fun _ => rfl) ds i 2 (by omega) (fun d => .sc (.int .i64 d.tw)) (fun _ => rfl) K
@[go_sem] theorem wr_cDu_2 (ds : List Du) (i : Nat) (x : Int) (h : i < ds.length) : wr (cDu ds) (i * 3 + 2) [.sc (.int .i64 x)] = cDu (ds.set i {gDu ds i with tw := x}) := rsWr Du.cells 3 (fun _ => rfl) ds i 2 (by omega) h _ _ rfl
@[go_sem] theorem wr_cDu_0_set (ds : List Du) (i i0 : Nat) (d : Du) (x : Int) (h : i < ds.length) : wr (cDu (ds.set i0 d)) (i * 3) [.sc (.int .i64 x)] = cDu ((ds.set i0 d).set i {gDu (ds.set i0 d) i with owner := x}) := wr_cDu_0 _ _ _ (by rw [List.length_set]; exact h)
@[go_sem] theorem wr_cDu_1_set (ds : List Du) (i i0 : Nat) (d : Du) (x : Int) (h : i < ds.length) : wr (cDu (ds.set i0 d)) (i * 3 + 1) [.sc (.int .i64 x)] = cDu ((ds.set i0 d).set i {gDu (ds.set i0 d) i with fr := x}) := wr_cDu_1 _ _ _ (by rw [List.length_set]; exact h)
@[go_sem] theorem wr_cDu_2_set (ds : List Du) (i i0 : Nat) (d : Du) (x : Int) (h : i < ds.length) : wr (cDu (ds.set i0 d)) (i * 3 + 2) [.sc (.int .i64 x)] = cDu ((ds.set i0 d).set i {gDu (ds.set i0 d) i with tw := x}) := wr_cDu_2 _ _ _ (by rw [List.length_set]; exact h)
attribute [go_sem] gDu_set_same
@[go_sem] theorem wr_cDu_all (ds : List Du) (i : Nat) (owner : Int) (fr : Int) (tw : Int) (h : i < ds.length) : wr (cDu ds) (i * 3) [.sc (.int .i64 owner), .sc (.int .i64 fr), .sc (.int .i64 tw)] = cDu (ds.set i ⟨owner, fr, tw⟩) := rsWrAll Du.cells 3 (fun _ => rfl) ds i h ⟨owner, fr, tw⟩
@[go_sem] theorem imm_cDu (ds : List Du) : V.immL (cDu ds) = true := by induction ds with | nil => rfl | cons x xs ih => exact ih
@[go_sem] theorem one_cDu (ds : List Du) : V.oneL (cDu ds) = true := by induction ds with | nil => rfl | cons x xs ih => exact ih
@[go_sem] theorem noref_cDu (ds : List Du) : V.norefL (cDu ds) = true := by induction ds with | nil => rfl | cons x xs ih => exact ih
@[go_sem] theorem flat_cDu (ds : List Du) : V.flatL (cDu ds) = true := by induction ds with | nil => rfl | cons x xs ih => exact ih
@[go_sem] theorem kill_cDu (p : Nat → Bool) (ds : List Du) : V.killL p (cDu ds) = cDu ds := killL_noref p _ (noref_cDu ds)
@[go_sem] theorem frz_cDu (f : Nat → Option Ob) (ds : List Du) : V.frzL f (cDu ds) = cDu ds := frzL_noref f _ (noref_cDu ds)
@[go_sem] theorem ren_cDu (g : Nat → Nat) (ds : List Du) : V.renL g (cDu ds) = cDu ds := by induction ds with | nil => rfl | cons x xs ih => exact congrArg (x.cells ++ ·) ih
@[go_sem] theorem reps_cDu (n : Nat) : reps n [V.sc (.int .i64 0), V.sc (.int .i64 0), V.sc (.int .i64 0)] = cDu (List.replicate n ⟨0, 0, 0⟩) := rsReps Du.cells n ⟨0, 0, 0⟩
@[go_sem] theorem map_cDu_inj (xs ys : List Du) : (cDu xs = cDu ys) = (xs = ys) := propext ⟨rsInj Du.cells 3 (fun _ => rfl) (by omega) (fun a b h => by cases a; cases b; simpa [Du.cells] using h) xs ys, fun h => by rw [h]⟩
@[go_sem] theorem cDu_rep0 (d : Du) : cDu (List.replicate 0 d) = [] := rfl
@[go_sem] theorem wr_cDu_rep1 (d : Du) (owner : Int) (fr : Int) (tw : Int) : wr (cDu (List.replicate 1 d)) 0 [.sc (.int .i64 owner), .sc (.int .i64 fr), .sc (.int .i64 tw)] = cDu [⟨owner, fr, tw⟩] := rfl
@[go_sem] theorem cDu_take1 (d : Du) : (cDu [d]).take 3 = cDu [d] := rfl
end Go.Proofs.YtpjjjonplikilaaGreat
namespace Go.Proofs.YtpjjjonplikilaaGreat
open Go.AG

theorem okP_all {ds : List Pc} (h : okP ds = true) : ds.length ≤ 60 ∧ (∀ p ∈ ds, (1 ≤ p.id ∧ p.id ≤ 9999) ∧ (0 ≤ p.owner ∧ p.owner ≤ 39) ∧ (1 ≤ p.area ∧ p.area ≤ 10000000) ∧ (0 ≤ p.cls ∧ p.cls ≤ 3)) ∧
    ∀ j, j < ds.length → 0 < j → (gPc ds (j - 1)).id < (gPc ds j).id := by
  simp only [okP, Bool.and_eq_true, decide_eq_true_eq, List.all_eq_true] at h
  refine ⟨h.2.1, fun p hp => ?_, of_decide_eq_true h.1⟩
  have := h.2.2 p hp
  simp only [pcB, Bool.and_eq_true, decide_eq_true_eq] at this
  omega
def arO (ds : List Pc) : List Int := acc Pc.owner Pc.area 40 ds
theorem acc_take {α : Type} (key val : α → Int) (n : Nat) (ds : List α) (k : Nat) (h : k < ds.length) : acc key val n (ds.take (k + 1)) = (acc key val n (ds.take k)).set (key ds[k]).toNat (IntKind.wrap .i64 (gi (acc key val n (ds.take k)) (key ds[k]).toNat + val ds[k])) := by
  rw [List.take_succ_eq_append_getElem h, acc_snoc]
theorem arO_len (ds : List Pc) : (arO ds).length = 40 := acc_len _ _ _ _
theorem arO_take (ds : List Pc) (k : Nat) (h : k < ds.length) (hn : (gPc ds k).owner.toNat < 40) : arO (ds.take (k + 1)) = wr (arO (ds.take k)) (gPc ds k).owner.toNat [IntKind.wrap .i64 (gi (arO (ds.take k)) (gPc ds k).owner.toNat + (gPc ds k).area)] := by
  have he := acc_take Pc.owner Pc.area 40 ds k h
  rw [← gPc_lt ds k h] at he
  rw [wr_set _ _ _ (by rw [arO_len]; exact hn)]
  exact he
set_option maxHeartbeats 4000000 in
theorem areasO_ok (ds : List Pc) (hok : okP ds = true) : ACalls Tryz.prog 56 [.sl ds.length (cPc ds)] [] (fun r o => r = .ref 0 0 40 ∧ o = [oI (arO ds)]) := by
  refine ACalls.of_vc Tryz.func56 rfl (by decide) 24 rfl [.tmp 2] rfl (by simp) ?_
  obtain ⟨hl, hall, _⟩ := okP_all hok
  (repeat (first | simp (maxSteps := 2000000) (disch := omega) only [go_sem, ↓reduceIte] | with_reducible refine vIf_t ?_ | with_reducible refine vIf_f ?_))
  refine vcLoop_invF (fun k : Nat => k ≤ ds.length) (fun k => ⟨24, 0, [(9, I k), (8, I ds.length), (7, .sl ds.length (cPc ds)), (3, .ref 0 0 40)], [oI (arO (ds.take k))]⟩) (fun k => ds.length - k) 0 (by omega) (by refine leF_s ?_; (repeat (first | simp (maxSteps := 2000000) (disch := omega) only [go_sem, ↓reduceIte, List.take_zero, arO, acc_nil] | with_reducible refine vIf_t ?_ | with_reducible refine vIf_f ?_))) ?_
  intro k hk
  have hlen := arO_len (ds.take k)
  (repeat (first | simp (maxSteps := 2000000) (disch := omega) only [go_sem, ↓reduceIte] | with_reducible refine vIf_t ?_ | with_reducible refine vIf_f ?_))
  refine vIf_dec (fun h => ?_) (fun h => ?_)
  · have hkl : k < ds.length := by omega
    have o1 := (hall _ (gPc_mem ds k hkl)).2.1
    have hn : (gPc ds k).owner.toNat < 40 := by omega
    have he := arO_take ds k hkl hn
    (repeat (first | simp (maxSteps := 2000000) (disch := omega) only [go_sem, ↓reduceIte] | with_reducible refine vIf_t ?_ | with_reducible refine vIf_f ?_))
    (refine vDraw_sch 7 [(0, false), (1, false), (2, false), (3, false), (4, false), (5, false), (6, false)] mixed (by kernel_rfl) ?_; simp only [List.cons_append, List.nil_append, List.map_cons, List.map_nil, nthO_zero, nthO_succ, List.drop_succ_cons, List.drop_zero, List.drop_nil]; (repeat (first | simp (maxSteps := 2000000) (disch := omega) only [go_sem, ↓reduceIte] | with_reducible refine vIf_t ?_ | with_reducible refine vIf_f ?_)))
    (try (repeat (first | simp (maxSteps := 2000000) (disch := omega) only [go_sem, ↓reduceIte, hlen] | with_reducible refine vIf_t ?_ | with_reducible refine vIf_f ?_)))
    refine againF (k + 1) (by omega) (by omega) ?_
    rw [he]
    (first | (refine leF_s ?_; ((repeat (first | simp (maxSteps := 2000000) (disch := omega) only [go_sem, ↓reduceIte] | with_reducible refine vIf_t ?_ | with_reducible refine vIf_f ?_)); all_goals (try simp); all_goals (try omega)); done) | (refine leF_p ?_; ((repeat (first | simp (maxSteps := 2000000) (disch := omega) only [go_sem, ↓reduceIte] | with_reducible refine vIf_t ?_ | with_reducible refine vIf_f ?_)); all_goals (try simp); all_goals (try omega)); done))
  · rw [List.take_of_length_le (by omega)]
    (repeat (first | simp (maxSteps := 2000000) (disch := omega) only [go_sem, ↓reduceIte] | with_reducible refine vIf_t ?_ | with_reducible refine vIf_f ?_))
    (refine retK_of ?_; (repeat (first | simp (maxSteps := 2000000) (disch := omega) only [go_sem, ↓reduceIte] | with_reducible refine vIf_t ?_ | with_reducible refine vIf_f ?_)))
end Go.Proofs.YtpjjjonplikilaaGreat
namespace Go.Proofs.YtpjjjonplikilaaGreat
open Go.AG

/-- where the part of an index begins -/
def atD (ds : List Du) (k : Nat) : Int := if k = 0 then 0 else (gDu ds (k - 1)).tw
theorem atD_zero (ds : List Du) : atD ds 0 = 0 := by simp [atD]
theorem atD_succ (ds : List Du) (k : Nat) : atD ds (k + 1) = (gDu ds k).tw := by simp [atD]
def duP (ds : List Du) (j : Nat) : Prop := (0 ≤ (gDu ds j).owner ∧ (gDu ds j).owner ≤ 39) ∧ (gDu ds j).fr = atD ds j ∧ (gDu ds j).fr < (gDu ds j).tw
structure VD (ds : List Du) (L : Int) : Prop where
  l : 1 ≤ L ∧ L ≤ 300000
  n : 1 ≤ ds.length ∧ ds.length ≤ 40
  e : atD ds ds.length = L
  p : ∀ j, j < ds.length → duP ds j
def vdB (ds : List Du) (L : Int) : Bool := decide (1 ≤ L ∧ L ≤ 300000) && (decide (1 ≤ ds.length ∧ ds.length ≤ 40) && (decide (atD ds ds.length = L) && decide (∀ j, j < ds.length → ((0 ≤ (gDu ds j).owner ∧ (gDu ds j).owner ≤ 39) ∧ (gDu ds j).fr = atD ds j ∧ (gDu ds j).fr < (gDu ds j).tw))))
theorem vdB_iff (ds : List Du) (L : Int) : vdB ds L = true ↔ VD ds L := by
  simp only [vdB, Bool.and_eq_true, decide_eq_true_eq]
  exact ⟨fun ⟨h1, h2, h3, h4⟩ => ⟨h1, h2, h3, h4⟩, fun h => ⟨h.l, h.n, h.e, h.p⟩⟩
theorem vdB_no {ds : List Du} {L : Int} (h : ¬ VD ds L) : vdB ds L = false := by
  rw [← Bool.not_eq_true, vdB_iff]; exact h
theorem vdB_yes {ds : List Du} {L : Int} (h : VD ds L) : vdB ds L = true := (vdB_iff ds L).2 h
theorem at_mono {ds : List Du} {n : Nat} (h : ∀ j, j < n → duP ds j) : ∀ i j, i ≤ j → j ≤ n → atD ds i ≤ atD ds j := by
  intro i j hij
  induction j with
  | zero => intro _; rw [show i = 0 by omega]; exact Int.le_refl _
  | succ j ih =>
    intro hj
    by_cases e : i = j + 1
    · rw [e]; exact Int.le_refl _
    · have h1 := ih (by omega) (by omega)
      have h2 := h j (by omega)
      rw [atD_succ]
      unfold duP at h2
      omega
theorem VD.bd {ds : List Du} {L : Int} (h : VD ds L) (j : Nat) (hj : j < ds.length) : 0 ≤ (gDu ds j).fr ∧ (gDu ds j).fr < (gDu ds j).tw ∧ (gDu ds j).tw ≤ L ∧ (gDu ds j).fr = atD ds j ∧ (gDu ds j).tw = atD ds (j + 1) ∧ (0 ≤ (gDu ds j).owner ∧ (gDu ds j).owner ≤ 39) := by
  have h1 := at_mono h.p 0 j (by omega) (by omega)
  have h2 := at_mono h.p (j + 1) ds.length (by omega) (Nat.le_refl _)
  have h3 := h.p j hj
  rw [atD_zero] at h1
  rw [h.e] at h2
  have h4 := atD_succ ds j
  unfold duP at h3
  omega
theorem dkLen_ok (n : Int) : ACalls Tryz.prog 54 [I n] [] (fun r o => r = B (decide (1 ≤ n ∧ n ≤ 300000)) ∧ o = []) := by
  refine ACalls.of_vc Tryz.func54 rfl (by decide) 5 rfl [.tmp 2] rfl (by simp) ?_
  (repeat (first | simp (maxSteps := 2000000) (disch := omega) only [go_sem, ↓reduceIte] | with_reducible refine vIf_t ?_ | with_reducible refine vIf_f ?_))
  (refine vCallX_of ?_; (repeat (first | simp (maxSteps := 2000000) (disch := omega) only [go_sem, ↓reduceIte] | with_reducible refine vIf_t ?_ | with_reducible refine vIf_f ?_)); refine vCall_eq (in_ok n 1 300000) (by simp (disch := omega) only [go_sem]) rfl (by first | exact Or.inl rfl | exact Or.inr ⟨rfl, rfl⟩ | (apply Or.inr; simp only [go_sem])) ?_; (repeat (first | simp (maxSteps := 2000000) (disch := omega) only [go_sem, ↓reduceIte] | with_reducible refine vIf_t ?_ | with_reducible refine vIf_f ?_)))
  (refine retK_of ?_; (repeat (first | simp (maxSteps := 2000000) (disch := omega) only [go_sem, ↓reduceIte] | with_reducible refine vIf_t ?_ | with_reducible refine vIf_f ?_)))
theorem szDu_ok (xs : List V) (n : Nat) : ACalls Tryz.prog 58 [.sl n xs] [] (fun r o => r = I n ∧ o = []) := by
  refine ACalls.of_vc Tryz.func58 rfl (by decide) 5 rfl [.tmp 2] rfl (by simp) ?_
  (repeat (first | simp (maxSteps := 2000000) (disch := omega) only [go_sem, ↓reduceIte] | with_reducible refine vIf_t ?_ | with_reducible refine vIf_f ?_))
  (refine retK_of ?_; (repeat (first | simp (maxSteps := 2000000) (disch := omega) only [go_sem, ↓reduceIte] | with_reducible refine vIf_t ?_ | with_reducible refine vIf_f ?_)))
set_option maxHeartbeats 4000000 in
theorem validD_ok (ds : List Du) (L : Int) (hl : ds.length ≤ 10000000) : ACalls Tryz.prog 22 [.sl ds.length (cDu ds), I L] [] (fun r o => r = B (vdB ds L) ∧ o = []) := by
  refine ACalls.of_vc Tryz.func22 rfl (by decide) 54 rfl [.tmp 4] rfl (by simp) ?_
  (repeat (first | simp (maxSteps := 2000000) (disch := omega) only [go_sem, ↓reduceIte] | with_reducible refine vIf_t ?_ | with_reducible refine vIf_f ?_))
  (refine vCallX_of ?_; (repeat (first | simp (maxSteps := 2000000) (disch := omega) only [go_sem, ↓reduceIte] | with_reducible refine vIf_t ?_ | with_reducible refine vIf_f ?_)); refine vCall_eq (dkLen_ok L) (by simp (disch := omega) only [go_sem]) rfl (by first | exact Or.inl rfl | exact Or.inr ⟨rfl, rfl⟩ | (apply Or.inr; simp only [go_sem])) ?_; (repeat (first | simp (maxSteps := 2000000) (disch := omega) only [go_sem, ↓reduceIte] | with_reducible refine vIf_t ?_ | with_reducible refine vIf_f ?_)))
  by_cases h1 : 1 ≤ L ∧ L ≤ 300000
  · have h1b : decide (1 ≤ L ∧ L ≤ 300000) = true := decide_eq_true h1
    (repeat (first | simp (maxSteps := 2000000) (disch := omega) only [go_sem, ↓reduceIte, h1b] | with_reducible refine vIf_t ?_ | with_reducible refine vIf_f ?_))
    (refine vCallX_of ?_; (repeat (first | simp (maxSteps := 2000000) (disch := omega) only [go_sem, ↓reduceIte] | with_reducible refine vIf_t ?_ | with_reducible refine vIf_f ?_)); refine vCall_eq (szDu_ok (cDu ds) ds.length) (by simp (disch := omega) only [go_sem]) rfl (by first | exact Or.inl rfl | exact Or.inr ⟨rfl, rfl⟩ | (apply Or.inr; simp only [go_sem])) ?_; (repeat (first | simp (maxSteps := 2000000) (disch := omega) only [go_sem, ↓reduceIte] | with_reducible refine vIf_t ?_ | with_reducible refine vIf_f ?_)))
    (refine vCallX_of ?_; (repeat (first | simp (maxSteps := 2000000) (disch := omega) only [go_sem, ↓reduceIte] | with_reducible refine vIf_t ?_ | with_reducible refine vIf_f ?_)); refine vCall_eq (in_ok ds.length 1 40) (by simp (disch := omega) only [go_sem]) rfl (by first | exact Or.inl rfl | exact Or.inr ⟨rfl, rfl⟩ | (apply Or.inr; simp only [go_sem])) ?_; (repeat (first | simp (maxSteps := 2000000) (disch := omega) only [go_sem, ↓reduceIte] | with_reducible refine vIf_t ?_ | with_reducible refine vIf_f ?_)))
    by_cases h2 : 1 ≤ ds.length ∧ ds.length ≤ 40
    · have h2b : decide (1 ≤ (ds.length : Int) ∧ (ds.length : Int) ≤ 40) = true := decide_eq_true (by omega)
      have hk1 : ((ds.length : Int) - 1).toNat = ds.length - 1 := by omega
      have he : (gDu ds (ds.length - 1)).tw = atD ds ds.length := by rw [atD, if_neg (by omega)]
      (repeat (first | simp (maxSteps := 2000000) (disch := omega) only [go_sem, ↓reduceIte, h2b, hk1, he] | with_reducible refine vIf_t ?_ | with_reducible refine vIf_f ?_))
      refine vIf_bne (fun h3 => ?_) (fun h3 => ?_)
      · (repeat (first | simp (maxSteps := 2000000) (disch := omega) only [go_sem, ↓reduceIte] | with_reducible refine vIf_t ?_ | with_reducible refine vIf_f ?_))
        (refine retK_of ?_; (repeat (first | simp (maxSteps := 2000000) (disch := omega) only [go_sem, ↓reduceIte] | with_reducible refine vIf_t ?_ | with_reducible refine vIf_f ?_)))
        rw [vdB_no (fun h => h3 h.e)]
      · (repeat (first | simp (maxSteps := 2000000) (disch := omega) only [go_sem, ↓reduceIte] | with_reducible refine vIf_t ?_ | with_reducible refine vIf_f ?_))
        refine vcLoop_invF (fun k : Nat => k ≤ ds.length ∧ ∀ j, j < k → duP ds j) (fun k => ⟨54, 0, [(30, I k), (5, I (atD ds k)), (28, .sl ds.length (cDu ds)), (29, I ds.length)], []⟩) (fun k => ds.length - k) 0 ⟨by omega, fun j hj => by omega⟩ (by rw [atD_zero]; (first | (refine leF_s ?_; ((repeat (first | simp (maxSteps := 2000000) (disch := omega) only [go_sem, ↓reduceIte] | with_reducible refine vIf_t ?_ | with_reducible refine vIf_f ?_)); all_goals (try simp); all_goals (try omega)); done) | (refine leF_p ?_; ((repeat (first | simp (maxSteps := 2000000) (disch := omega) only [go_sem, ↓reduceIte] | with_reducible refine vIf_t ?_ | with_reducible refine vIf_f ?_)); all_goals (try simp); all_goals (try omega)); done))) ?_
        intro k ⟨hk, hp⟩
        (repeat (first | simp (maxSteps := 2000000) (disch := omega) only [go_sem, ↓reduceIte] | with_reducible refine vIf_t ?_ | with_reducible refine vIf_f ?_))
        refine vIf_dec (fun hh => ?_) (fun hh => ?_)
        · have hkl : k < ds.length := by omega
          (repeat (first | simp (maxSteps := 2000000) (disch := omega) only [go_sem, ↓reduceIte] | with_reducible refine vIf_t ?_ | with_reducible refine vIf_f ?_))
          (refine vCallX_of ?_; (repeat (first | simp (maxSteps := 2000000) (disch := omega) only [go_sem, ↓reduceIte] | with_reducible refine vIf_t ?_ | with_reducible refine vIf_f ?_)); refine vCall_eq (isOwner_ok (gDu ds k).owner) (by simp (disch := omega) only [go_sem]) rfl (by first | exact Or.inl rfl | exact Or.inr ⟨rfl, rfl⟩ | (apply Or.inr; simp only [go_sem])) ?_; (repeat (first | simp (maxSteps := 2000000) (disch := omega) only [go_sem, ↓reduceIte] | with_reducible refine vIf_t ?_ | with_reducible refine vIf_f ?_)))
          by_cases h4 : 0 ≤ (gDu ds k).owner ∧ (gDu ds k).owner ≤ 39
          · have h4b : decide (0 ≤ (gDu ds k).owner ∧ (gDu ds k).owner ≤ 39) = true := decide_eq_true h4
            by_cases h5 : (gDu ds k).fr = atD ds k
            · by_cases h6 : (gDu ds k).fr < (gDu ds k).tw
              · have h5b : ((gDu ds k).fr != atD ds k) = false := by simpa using h5
                have h6b : decide ((gDu ds k).tw ≤ (gDu ds k).fr) = false := decide_eq_false (by omega)
                (repeat (first | simp (maxSteps := 2000000) (disch := omega) only [go_sem, ↓reduceIte, h4b, h5b, h6b] | with_reducible refine vIf_t ?_ | with_reducible refine vIf_f ?_))
                refine againF (k + 1) ⟨by omega, fun j hj => ?_⟩ (by omega) ?_
                · by_cases e : j = k
                  · rw [e]; exact ⟨h4, h5, h6⟩
                  · exact hp j (by omega)
                · rw [atD_succ]
                  (first | (refine leF_s ?_; ((repeat (first | simp (maxSteps := 2000000) (disch := omega) only [go_sem, ↓reduceIte] | with_reducible refine vIf_t ?_ | with_reducible refine vIf_f ?_)); all_goals (try simp); all_goals (try omega)); done) | (refine leF_p ?_; ((repeat (first | simp (maxSteps := 2000000) (disch := omega) only [go_sem, ↓reduceIte] | with_reducible refine vIf_t ?_ | with_reducible refine vIf_f ?_)); all_goals (try simp); all_goals (try omega)); done))
              · have h5b : ((gDu ds k).fr != atD ds k) = false := by simpa using h5
                have h6b : decide ((gDu ds k).tw ≤ (gDu ds k).fr) = true := decide_eq_true (by omega)
                (repeat (first | simp (maxSteps := 2000000) (disch := omega) only [go_sem, ↓reduceIte, h4b, h5b, h6b] | with_reducible refine vIf_t ?_ | with_reducible refine vIf_f ?_))
                (refine retK_of ?_; (repeat (first | simp (maxSteps := 2000000) (disch := omega) only [go_sem, ↓reduceIte] | with_reducible refine vIf_t ?_ | with_reducible refine vIf_f ?_)))
                rw [vdB_no (fun h => h6 (h.p k hkl).2.2)]
            · have h5b : ((gDu ds k).fr != atD ds k) = true := by simpa using h5
              (repeat (first | simp (maxSteps := 2000000) (disch := omega) only [go_sem, ↓reduceIte, h4b, h5b] | with_reducible refine vIf_t ?_ | with_reducible refine vIf_f ?_))
              (refine retK_of ?_; (repeat (first | simp (maxSteps := 2000000) (disch := omega) only [go_sem, ↓reduceIte] | with_reducible refine vIf_t ?_ | with_reducible refine vIf_f ?_)))
              rw [vdB_no (fun h => h5 (h.p k hkl).2.1)]
          · have h4b : decide (0 ≤ (gDu ds k).owner ∧ (gDu ds k).owner ≤ 39) = false := decide_eq_false h4
            (repeat (first | simp (maxSteps := 2000000) (disch := omega) only [go_sem, ↓reduceIte, h4b] | with_reducible refine vIf_t ?_ | with_reducible refine vIf_f ?_))
            (refine retK_of ?_; (repeat (first | simp (maxSteps := 2000000) (disch := omega) only [go_sem, ↓reduceIte] | with_reducible refine vIf_t ?_ | with_reducible refine vIf_f ?_)))
            rw [vdB_no (fun h => h4 (h.p k hkl).1)]
        · (repeat (first | simp (maxSteps := 2000000) (disch := omega) only [go_sem, ↓reduceIte] | with_reducible refine vIf_t ?_ | with_reducible refine vIf_f ?_))
          (refine retK_of ?_; (repeat (first | simp (maxSteps := 2000000) (disch := omega) only [go_sem, ↓reduceIte] | with_reducible refine vIf_t ?_ | with_reducible refine vIf_f ?_)))
          rw [vdB_yes ⟨h1, h2, h3, fun j hj => hp j (by omega)⟩]
    · have h2b : decide (1 ≤ (ds.length : Int) ∧ (ds.length : Int) ≤ 40) = false := decide_eq_false (by omega)
      (repeat (first | simp (maxSteps := 2000000) (disch := omega) only [go_sem, ↓reduceIte, h2b] | with_reducible refine vIf_t ?_ | with_reducible refine vIf_f ?_))
      (refine retK_of ?_; (repeat (first | simp (maxSteps := 2000000) (disch := omega) only [go_sem, ↓reduceIte] | with_reducible refine vIf_t ?_ | with_reducible refine vIf_f ?_)))
      rw [vdB_no (fun h => h2 h.n)]
  · have h1b : decide (1 ≤ L ∧ L ≤ 300000) = false := decide_eq_false h1
    (repeat (first | simp (maxSteps := 2000000) (disch := omega) only [go_sem, ↓reduceIte, h1b] | with_reducible refine vIf_t ?_ | with_reducible refine vIf_f ?_))
    (refine retK_of ?_; (repeat (first | simp (maxSteps := 2000000) (disch := omega) only [go_sem, ↓reduceIte] | with_reducible refine vIf_t ?_ | with_reducible refine vIf_f ?_)))
    rw [vdB_no (fun h => h1 h.l)]
def doK (ds : List Du) (o : Int) : Nat → Int
  | 0 => 0
  | k + 1 => doK ds o k + (if (gDu ds k).owner = o then (gDu ds k).tw - (gDu ds k).fr else 0)
@[go_sem] theorem doK_zero (ds : List Du) (o : Int) : doK ds o 0 = 0 := _root_.id rfl
end Go.Proofs.YtpjjjonplikilaaGreat
namespace Go.AG
open Go Go.RowKit Go.Sort
variable {α : Type} [Inhabited α]

/-- a row of cells -/
def encs (enc : α → Value) (xs : List α) : List V := xs.map fun x => .sc (enc x)
omit [Inhabited α] in
theorem encs_len (enc : α → Value) (xs : List α) : (encs enc xs).length = xs.length := by simp [encs]
theorem wr_whole {β : Type} (a b : List β) (h : b.length = a.length) : wr a 0 b = b := by simp [wr, h]
theorem arr_get (xs : List α) (j : Nat) (h : j < xs.length) : xs.toArray[j]! = xs[j] := by simp [h]
theorem putCells_wr (enc : α → Value) (off : Nat) (ys : List α) (cur : Array Value) (h : off + ys.length ≤ cur.size) : putCells enc off ys.toArray cur = (wr cur.toList off (ys.map enc)).toArray := by
  apply Array.ext_getElem?
  intro k
  simp only [putCells, Array.getElem?_mapIdx, List.getElem?_toArray]
  rw [get_wr cur.toList off (ys.map enc) (by simpa using h) k]
  simp only [List.length_map, List.size_toArray]
  by_cases h1 : k < off
  · rw [if_pos h1]
    cases hc : cur[k]? with
    | none => simp [hc]
    | some c => simp [hc, show ¬ (off ≤ k ∧ k < off + ys.length) by omega]
  · rw [if_neg h1]
    by_cases h2 : k < off + ys.length
    · rw [if_pos h2]
      have hk : k < cur.size := by omega
      have hy : k - off < ys.length := by omega
      rw [Array.getElem?_eq_getElem hk, Option.map_some, if_pos ⟨by omega, h2⟩, arr_get _ _ hy]
      simp [hy]
    · rw [if_neg h2]
      cases hc : cur[k]? with
      | none => simp [hc]
      | some c => simp [hc, show ¬ (off ≤ k ∧ k < off + ys.length) by omega]
theorem HOk.sorted {F : Fr} {w : World} {ρ : Nat → Pl} {ob : Objs} (h : HOk F w ρ ob) {l esz : Nat} (hm : esz ≠ mapSz) (enc : α → Value) (h1 : ∀ x, (enc x).oneCell' = true) {xs ys : List α} (hl : ys.length = xs.length) (ho : Live ob l ⟨esz, encs enc xs⟩) (n : Nat) (os : Array Obj) :
    HOk F (Sort.grow (putRow enc (Sort.ahead w n) (ρ l).blk (ρ l).base ys.toArray) os) ρ (ob.set l (some ⟨esz, encs enc ys⟩)) ∧
      (∀ v x, RepC w (F.Y ρ ob) ρ ob v x → RepC (Sort.grow (putRow enc (Sort.ahead w n) (ρ l).blk (ρ l).base ys.toArray) os) (F.Y ρ (ob.set l (some ⟨esz, encs enc ys⟩))) ρ (ob.set l (some ⟨esz, encs enc ys⟩)) v x) := by
  obtain ⟨⟨cur, e, hr, hs⟩, hf, hc⟩ := (h.obj l _ ho).cells hm
  simp only [encs_len] at hf
  obtain ⟨w1, hrun, hok, hrep, hoth, hsz⟩ := h.store ho hm 0 (ys.map enc) (encs enc ys) (by simp [encs]) (by simp [encs, hl]) (fun i hi => by
    rw [encs_len] at hi
    have e1 : (ys.map enc).getD i undef = enc ys[i] := by simp [hi]
    have e2 : (encs enc ys)[i]'(by rw [encs_len]; exact hi) = .sc (enc ys[i]) := by simp [encs]
    rw [e1, e2]; exact .d (.sc _)) (fun v hv => by
    obtain ⟨y, _, rfl⟩ := List.mem_map.1 hv
    exact h1 y)
  rw [wr_whole _ _ (by rw [encs_len, encs_len, hl])] at hok hrep
  have hlt := h.blk_lt ho
  have hrow : (Sort.grow (putRow enc (Sort.ahead w n) (ρ l).blk (ρ l).base ys.toArray) os).heap[(ρ l).blk]? = some (.cells (wr cur.toList (ρ l).base (ys.map enc)).toArray e (0, 0)) := by
    rw [heap_grow_old _ _ (by rw [size_putRow]; exact hlt)]
    unfold putRow mapBlock
    simp only [Array.getElem?_modify, if_true]
    rw [show (Sort.ahead w n).heap[(ρ l).blk]? = _ from hr]
    simp only [Option.map_some, onCells]
    rw [putCells_wr enc (ρ l).base ys cur (by omega)]
  have hw1 : w1 = w.setRow (ρ l).blk (wr cur.toList (ρ l).base (ys.map enc)).toArray := by
    have hx := hrun default
    have hx2 := run_storeCells_at (P := default) (ρ l).blk (ρ l).base e (ys.map enc) 0 cur w hr (by simp; omega) (fun v hv => by
      obtain ⟨y, _, rfl⟩ := List.mem_map.1 hv
      exact h1 y)
    rw [Nat.add_zero] at hx
    rw [hx] at hx2
    simp only [Result.ok.injEq, true_and] at hx2
    rw [hx2]
    simp [wr]
  have hb : Below w1.heap.size w1 (Sort.grow (putRow enc (Sort.ahead w n) (ρ l).blk (ρ l).base ys.toArray) os) := by
    subst hw1
    refine ⟨rfl, rfl, rfl, by simp [size_putRow, size_grow, Sort.ahead], fun k hk => ?_⟩
    by_cases hkb : k = (ρ l).blk
    · subst hkb
      rw [hrow, setRow_heap w _ cur _ e _ hr]
    · rw [setRow_other w _ _ _ hkb, heap_grow_old _ _ (by rw [size_putRow]; simpa [Sort.ahead] using hk)]
      simp [putRow, mapBlock, Array.getElem?_modify, Ne.symm hkb, Sort.ahead]
  exact ⟨hok.grow hb, fun v x hx => (hrep v x hx).grow hb⟩
theorem HOk.holds {F : Fr} {w : World} {ρ : Nat → Pl} {ob : Objs} (h : HOk F w ρ ob) {l esz : Nat} (hm : esz ≠ mapSz) (enc : α → Value) {xs : List α} (ho : Live ob l ⟨esz, encs enc xs⟩) : Holds enc w (ρ l).blk (ρ l).base xs.toArray := by
  obtain ⟨⟨cur, e, hr, hs⟩, hf, hc⟩ := (h.obj l _ ho).cells hm
  intro j hj
  have hj2 : j < xs.length := by simpa using hj
  obtain ⟨c, c1, c2, c3⟩ := hc j (by rw [encs_len]; exact hj2)
  refine ⟨?_, ?_⟩
  · rw [c1, arr_get _ _ hj2]
    have e2 : (encs enc xs)[j]'(by rw [encs_len]; exact hj2) = .sc (enc xs[j]) := by simp [encs]
    simp only [e2] at c2
    rw [sc_of c2]
  · simp [World.frozen?, hr]
/-- a library function that sorts a row in place -/
theorem ACalls.row {P : Program} {f : FuncId} (hb : HasBody P f) (enc : α → Value) (h1 : ∀ x, (enc x).oneCell' = true) (xs ys : List α) (hl : ys.length = xs.length)
    (h : ∀ (w : World) (blk off cap : Nat), Holds enc w blk off xs.toArray → blk < w.heap.size → Calls P f #[.slice (some ⟨blk, off, none⟩) xs.length cap] w fun e w' => e = .returned (.tuple #[]) ∧ ∃ n os, w' = Sort.grow (putRow enc (Sort.ahead w n) blk off ys.toArray) os) :
    ACalls P f [.ref 0 0 xs.length] [some ⟨1, encs enc xs⟩] (fun r o => r = .tup [] ∧ o = [some ⟨1, encs enc ys⟩]) := by
  refine ⟨hb, fun w X ρ vs hL hs hH hr => ?_⟩
  have ho : Live [some ⟨1, encs enc xs⟩] 0 ⟨1, encs enc xs⟩ := rfl
  have hlt := hH.blk_lt ho
  have h0 := hr 0 (by simp)
  have hvs : vs = #[vs.getD 0 undef] := by
    have : vs.size = 1 := hs
    apply Array.ext (by simp [this])
    intro i h1 h2
    have : i = 0 := by omega
    subst this
    simp [Array.getD, h1]
  have key : ∀ (m : Nat) (v0 : Value), RepC w (Fr.Y ⟨w, X, ownB ρ [some ⟨1, encs enc xs⟩], 1, ρ⟩ ρ [some ⟨1, encs enc xs⟩]) ρ [some ⟨1, encs enc xs⟩] v0 (.ref 0 0 m) → ∃ off cap, v0 = .slice (some ⟨(ρ 0).blk, off, none⟩) m cap ∧ (off = (ρ 0).base ∨ m = 0) := by
    intro m v0 h0
    cases h0 with
    | d h => cases h
    | ref ho' hm' hlc hc' hs' => exact ⟨_, _, rfl, .inl rfl⟩
    | ref0 ho' hm' => exact ⟨_, _, rfl, .inr rfl⟩
  obtain ⟨off, cap, hv0, hoff⟩ := key _ _ h0
  have hv : vs = #[.slice (some ⟨(ρ 0).blk, off, none⟩) xs.length cap] := by rw [hvs, hv0]
  subst hv
  have hol := hH.holds (by decide) enc ho
  rcases hoff with rfl | hnil
  · refine (h w _ _ cap hol hlt).mono ?_
    rintro e w' ⟨rfl, n, os, rfl⟩
    obtain ⟨k1, k2⟩ := hH.sorted (by decide) enc h1 hl ho n os
    exact ⟨_, .tup [], _, ρ, rfl, ⟨rfl, rfl⟩, k1, .tup rfl fun i hi => absurd hi (by simp)⟩
  · have hnil := List.eq_nil_of_length_eq_zero hnil
    subst hnil
    have hy : ys = [] := List.eq_nil_of_length_eq_zero (by simpa using hl)
    subst hy
    refine (h w (ρ 0).blk off cap (fun j hj => absurd hj (by simp)) hlt).mono ?_
    rintro e w' ⟨rfl, n, os, rfl⟩
    have e1 : putRow enc (Sort.ahead w n) (ρ 0).blk off ([] : List α).toArray = Sort.ahead w n := by
      refine mapBlock_id _ _ _ fun c e fr _ => ?_
      apply Array.ext_getElem?
      intro k
      simp only [putCells, Array.getElem?_mapIdx]
      cases hc : c[k]? with
      | none => rfl
      | some x => simp [show ¬ (off ≤ k ∧ k < off) by omega]
    rw [e1]
    have hbl : Below w.heap.size w (Sort.grow (Sort.ahead w n) os) := ⟨rfl, rfl, rfl, by simp [Sort.ahead], fun k hk => by rw [heap_grow_old _ _ (by simpa [Sort.ahead] using hk)]; rfl⟩
    exact ⟨_, .tup [], _, ρ, rfl, ⟨rfl, rfl⟩, hH.grow hbl, .tup rfl fun i hi => absurd hi (by simp)⟩
end Go.AG
namespace Go.AG
open Go Go.RowKit Go.Sort Go.Proofs
variable {α : Type} [Inhabited α]

omit [Inhabited α] in
theorem ptr_of {w : World} {Y : Nat → Prop} {ρ : Nat → Pl} {ob : Objs} {v : Value} {l off : Nat} (h : RepC w Y ρ ob v (.ptr l off)) : v = .pointer (some ⟨(ρ l).blk, (ρ l).base + off, none⟩) := by
  cases h with
  | d h => cases h
  | ptr ho hm => rfl
theorem HOk.box0 {F : Fr} {w : World} {ρ : Nat → Pl} {ob : Objs} (h : HOk F w ρ ob) {l : Nat} {x : V} (ho : Live ob l ⟨1, [x]⟩) : ∃ c, w.cell? ⟨(ρ l).blk, (ρ l).base, none⟩ = some c ∧ RepC w (F.Y ρ ob) ρ ob c x := by
  obtain ⟨_, _, hc⟩ := (h.obj l _ ho).cells (by simp [mapSz])
  obtain ⟨c, c1, c2, _⟩ := hc 0 (by simp)
  exact ⟨c, by simpa using c1, by simpa using c2⟩
theorem sl_of {w : World} {X : Nat → Prop} {v : Value} {n : Nat} {xs : List V} (h : RepD w X v (.sl n xs)) (hx : xs ≠ []) :
    ∃ b o cap, v = .slice (some ⟨b, o, none⟩) n cap ∧ ¬ X b ∧ ∀ i (hi : i < xs.length), ∃ c, w.cell? ⟨b, o + i, none⟩ = some c ∧ RepD w X c xs[i] := by
  cases h with
  | nil => exact absurd rfl hx
  | sl0 a => exact absurd rfl hx
  | sl cs hc hr hX hl => exact ⟨_, _, _, rfl, hX hx, fun i hi => ⟨_, hc i hi, hr i hi⟩⟩
theorem sortWorld_other (enc : α → Value) {w : World} {blk off m : Nat} {dk : Array α} {os : Array Obj} {a : Addr} {c : Value} (h : w.cell? a = some c) (hne : a.block ≠ blk) : (sortWorld enc w blk off m dk os).cell? a = some c := by
  have hlt := World.block_lt_of_cell? w a h
  unfold sortWorld
  rw [cell?_grow _ _ _ (by rw [Go.Sort.size_putRow]; exact hlt), cell?_putRow_other _ _ _ _ _ _ (Or.inl hne)]
  exact h
theorem sortWorld_row (enc : α → Value) {w : World} {blk off m : Nat} {d dk : Array α} {os : Array Obj} (h : Holds enc w blk off d) (hb : blk < w.heap.size) (hs : dk.size = d.size) (t : Nat) (ht : t < dk.size) : (sortWorld enc w blk off m dk os).cell? ⟨blk, off + t, none⟩ = some (enc dk[t]!) := by
  unfold sortWorld
  rw [cell?_grow _ _ _ (by rw [Go.Sort.size_putRow]; exact hb), cell?_putRow enc (Sort.ahead w m) blk off d dk (holds_ahead _ _ _ _ _ _ h) hs t ht]
/-- a library function that sorts a row in an interface value by a closure -/
theorem ACalls.stable {P : Program} {f : FuncId} (hb : HasBody P f) (T : TypeId) (g : FuncId) (caps : List V) (enc : α → Value) (h1 : ∀ x, (enc x).oneCell' = true) (lt : α → α → Bool) (xs ys : List α) (hl : ys.length = xs.length) (hx : xs ≠ []) (rest : Objs)
    (hcl : ∀ (F : Fr) (w : World) (ρ : Nat → Pl), HOk F w ρ (some ⟨1, encs enc xs⟩ :: rest) → ∀ cs : Array Value, cs.size = caps.length →
      (∀ i (h : i < caps.length), RepC w (F.Y ρ (some ⟨1, encs enc xs⟩ :: rest)) ρ (some ⟨1, encs enc xs⟩ :: rest) (cs.getD i undef) caps[i]) → LessReads P g cs enc lt (ρ 0).blk (ρ 0).base xs.length w)
    (hrun : ∀ (w : World) (blk off cap : Nat) (cs : Array Value), LessReads P g cs enc lt blk off xs.length w → Holds enc w blk off xs.toArray → blk < w.heap.size →
      Calls P f #[.iface T (.slice (some ⟨blk, off, none⟩) xs.length cap), .func (.func g) #[] cs] w fun e w' => e = .returned (.tuple #[]) ∧ ∃ n os, w' = Sort.grow (putRow enc (Sort.ahead w n) blk off ys.toArray) os) :
    ACalls P f [.ifc T (.ref 0 0 xs.length), .fn g caps] (some ⟨1, encs enc xs⟩ :: rest) (fun r o => r = .tup [] ∧ o = some ⟨1, encs enc ys⟩ :: rest) := by
  refine ⟨hb, fun w X ρ vs hL hs hH hr => ?_⟩
  have ho : Live (some ⟨1, encs enc xs⟩ :: rest) 0 ⟨1, encs enc xs⟩ := rfl
  have hlt := hH.blk_lt ho
  have h0 := hr 0 (by simp)
  have hc0 := hr 1 (by simp)
  simp only [List.getElem_cons_zero, List.getElem_cons_succ] at h0 hc0
  have hvs : vs = #[vs.getD 0 undef, vs.getD 1 undef] := by
    have : vs.size = 2 := hs
    apply Array.ext (by simp [this])
    intro i h1 h2
    have : i = 0 ∨ i = 1 := by omega
    rcases this with rfl | rfl <;> simp [Array.getD, h1]
  generalize vs.getD 0 undef = v0 at *
  generalize vs.getD 1 undef = v1 at *
  have hpos : xs.length ≠ 0 := fun e => hx (List.eq_nil_of_length_eq_zero e)
  obtain ⟨cap, e0⟩ : ∃ cap, v0 = .iface T (.slice (some ⟨(ρ 0).blk, (ρ 0).base, none⟩) xs.length cap) := by
    cases h0 with
    | d h => cases h
    | ifc h =>
      generalize hn : xs.length = n at *
      cases h with
      | d h => cases h
      | ref ho' hm' hlc hc' hs' => exact ⟨_, rfl⟩
      | ref0 ho' hm' => exact absurd rfl hpos
  obtain ⟨cs, e1, e2, e3⟩ : ∃ cs : Array Value, v1 = .func (.func g) #[] cs ∧ cs.size = caps.length ∧ ∀ i (h : i < caps.length), RepC w (Fr.Y ⟨w, X, ownB ρ (some ⟨1, encs enc xs⟩ :: rest), (some (⟨1, encs enc xs⟩ : Ob) :: rest).length, ρ⟩ ρ (some ⟨1, encs enc xs⟩ :: rest)) ρ (some ⟨1, encs enc xs⟩ :: rest) (cs.getD i undef) caps[i] := by
    cases hc0 with
    | d h => cases h with
      | fn hs hr => exact ⟨_, rfl, hs, fun i hi => .d (hr i hi)⟩
    | fn hs hr => exact ⟨_, rfl, hs, hr⟩
  subst e0 e1
  rw [hvs]
  refine (hrun w _ _ cap cs (hcl _ w ρ hH cs e2 e3) (hH.holds (by decide) enc ho) hlt).mono ?_
  rintro e w' ⟨rfl, n, os, rfl⟩
  obtain ⟨k1, k2⟩ := hH.sorted (by decide) enc h1 hl ho n os
  exact ⟨_, .tup [], _, ρ, rfl, ⟨rfl, rfl⟩, k1, .tup rfl fun i hi => absurd hi (by simp)⟩
/-- .. of no element or one -/
theorem ACalls.tiny {P : Program} {f : FuncId} (hb : HasBody P f) (T : TypeId) (g : FuncId) (caps : List V) (n : Nat) (ob : Objs)
    (hrun : ∀ (w : World) (p : Option Addr) (cap : Nat) (cs : Array Value), Calls P f #[.iface T (.slice p n cap), .func (.func g) #[] cs] w fun e w' => e = .returned (.tuple #[]) ∧ ∃ os, w' = Sort.grow w os) :
    ACalls P f [.ifc T (.ref 0 0 n), .fn g caps] ob (fun r o => r = .tup [] ∧ o = ob) := by
  refine ⟨hb, fun w X ρ vs hL hs hH hr => ?_⟩
  have h0 := hr 0 (by simp)
  have hc0 := hr 1 (by simp)
  simp only [List.getElem_cons_zero, List.getElem_cons_succ] at h0 hc0
  have hvs : vs = #[vs.getD 0 undef, vs.getD 1 undef] := by
    have : vs.size = 2 := hs
    apply Array.ext (by simp [this])
    intro i h1 h2
    have : i = 0 ∨ i = 1 := by omega
    rcases this with rfl | rfl <;> simp [Array.getD, h1]
  generalize vs.getD 0 undef = v0 at *
  generalize vs.getD 1 undef = v1 at *
  obtain ⟨p, cap, e0⟩ : ∃ p cap, v0 = .iface T (.slice p n cap) := by
    cases h0 with
    | d h => cases h
    | ifc h =>
      cases h with
      | d h => cases h
      | ref ho' hm' hlc hc' hs' => exact ⟨_, _, rfl⟩
      | ref0 ho' hm' => exact ⟨_, _, rfl⟩
  obtain ⟨cs, e1⟩ : ∃ cs : Array Value, v1 = .func (.func g) #[] cs := by
    cases hc0 with
    | d h => cases h with
      | fn hs hr => exact ⟨_, rfl⟩
    | fn hs hr => exact ⟨_, rfl⟩
  subst e0 e1
  rw [hvs]
  refine (hrun w p cap cs).mono ?_
  rintro e w' ⟨rfl, os, rfl⟩
  have hbl : Below w.heap.size w (Sort.grow w os) := ⟨rfl, rfl, rfl, by simp [Sort.grow], fun k hk => by rw [heap_grow_old _ _ hk]⟩
  exact ⟨_, .tup [], _, ρ, rfl, ⟨rfl, rfl⟩, hH.grow hbl, .tup rfl fun i hi => absurd hi (by simp)⟩
end Go.AG
namespace Go.Proofs.YtpjjjonplikilaaGreat
open Go.AG Go.Lib Go.Sort Go.Shelf Go.RowKit

/-- a remainder, as the program makes it -/
def rmW (T S x : Int) : Int := (wrap64 (T * x)).tmod S
set_option maxHeartbeats 4000000 in
theorem shLess_walk (W : World) (bt ot bw ow bo oo bs os blk off c wb wo cw n : Nat) (T S : Int) (ws : Nat → Int) (G : Nat → Nat)
    (ht : W.cell? ⟨bt, ot, none⟩ = some (.int .i64 T)) (hw : W.cell? ⟨bw, ow, none⟩ = some (.slice (some ⟨wb, wo, none⟩) n cw))
    (ho : W.cell? ⟨bo, oo, none⟩ = some (.slice (some ⟨blk, off, none⟩) n c)) (hs : W.cell? ⟨bs, os, none⟩ = some (.int .i64 S))
    (hc : ∀ t, t < n → W.cell? ⟨blk, off + t, none⟩ = some (.int .i64 (G t : Nat))) (hg : ∀ t, t < n → G t < n)
    (hws : ∀ t, t < n → W.cell? ⟨wb, wo + t, none⟩ = some (.int .i64 (ws t)))
    (i j : Nat) (hi : i < n) (hj : j < n) (hS : 0 < S) :
    Calls Tryz.prog 95 #[.int .i64 i, .int .i64 j, .pointer (some ⟨bt, ot, none⟩), .pointer (some ⟨bw, ow, none⟩), .pointer (some ⟨bo, oo, none⟩), .pointer (some ⟨bs, os, none⟩)] W
      fun e w' => e = .returned (.bool (decide (rmW T S (ws (G j)) < rmW T S (ws (G i))))) ∧ ∃ q, w' = W.drewN q := by
  have ci := hc i hi
  have cj := hc j hj
  have gi := hg i hi
  have gj := hg j hj
  have wi := hws _ gi
  have wj := hws _ gj
  go_enter Tryz.func95, Tryz.ntmps95
  go_wp2
  go_quiet (fail)
  go_wp2
  go_ret
  refine ⟨?_, _, rfl⟩
  show Ending.returned (Value.bool (decide (rmW T S (ws (G j)) < rmW T S (ws (G i))))) = _
  rfl
noncomputable def shT : TypeInfo := (Tryz.prog.info? 131).get (by kernel_rfl)
noncomputable def shE : TypeInfo := (Tryz.prog.info? 3).get (by kernel_rfl)
theorem shK (n : Nat) (h2 : 2 ≤ n) : Lib.swapperK n shE 2 = 5 := by
  have a : shE.hasPointers = false := by kernel_rfl
  have b : shE.bytes = 8 := by kernel_rfl
  have c : (n == 0) = false := by simp; omega
  have d : (n == 1) = false := by simp; omega
  simp [Lib.swapperK, a, b, c, d]
theorem shK0 : Lib.swapperK 0 shE 2 = 1 := by simp [Lib.swapperK]
theorem shK1 : Lib.swapperK 1 shE 2 = 2 := by simp [Lib.swapperK]
end Go.Proofs.YtpjjjonplikilaaGreat

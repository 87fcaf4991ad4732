/- trial -/
import Derived.Test.YtjgjnedenapemaaGreatDoorX5
import Derived.Test.YtjgjnedenapemaaGreatDoorAgZ
set_option linter.unusedVariables false
set_option linter.unusedSimpArgs false
namespace Go.Proofs.YtjgjnedenapemaaGreatDoor
open Go.AG

theorem gcdS_ok (a b : Nat) (ha : a ≤ 1000000000000000000) (hb : b ≤ 1000000000000000000) : ACalls Tryz.prog 109 [I a, I b] [] (fun r o => r = I (Nat.gcd a b) ∧ o = []) := by
  refine ACalls.of_vc Tryz.func109 rfl (by decide) 14 rfl [.tmp 4] rfl (by simp) ?_
  (repeat (first | simp (maxSteps := 2000000) (disch := omega) only [go_sem, ↓reduceIte] | with_reducible refine vIf_t ?_ | with_reducible refine vIf_f ?_))
  refine vcLoop_inv (fun q : Nat × Nat => q.1 ≤ 1000000000000000000 ∧ q.2 ≤ 1000000000000000000 ∧ Nat.gcd q.1 q.2 = Nat.gcd a b) (fun q => ⟨14, 0, [(0, I q.1), (1, I q.2)], []⟩) (fun q => q.2) (a, b) ⟨ha, hb, rfl⟩ (by (repeat (first | simp (maxSteps := 2000000) (disch := omega) only [go_sem, ↓reduceIte] | with_reducible refine vIf_t ?_ | with_reducible refine vIf_f ?_))) ?_
  rintro ⟨c, d⟩ ⟨hc, hd, he⟩
  dsimp only at hc hd he ⊢
  (repeat (first | simp (maxSteps := 2000000) (disch := omega) only [go_sem, ↓reduceIte] | with_reducible refine vIf_t ?_ | with_reducible refine vIf_f ?_))
  refine vIf_bne (fun h => ?_) (fun h => ?_)
  · have e1 : (c : Int).tmod (d : Int) = ((c % d : Nat) : Int) := by rw [Int.ofNat_tmod]
    have e2 : c % d < d := Nat.mod_lt _ (by omega)
    (repeat (first | simp (maxSteps := 2000000) (disch := omega) only [go_sem, ↓reduceIte, e1] | with_reducible refine vIf_t ?_ | with_reducible refine vIf_f ?_))
    refine again (d, c % d) ⟨hd, by show c % d ≤ 1000000000000000000; omega, by show Nat.gcd d (c % d) = _; rw [← he, Nat.gcd_comm c d, Nat.gcd_rec d c, Nat.gcd_comm]⟩ (by show c % d < d; omega) ?_
    (repeat (first | simp (maxSteps := 2000000) (disch := omega) only [go_sem, ↓reduceIte] | with_reducible refine vIf_t ?_ | with_reducible refine vIf_f ?_))
  · (repeat (first | simp (maxSteps := 2000000) (disch := omega) only [go_sem, ↓reduceIte] | with_reducible refine vIf_t ?_ | with_reducible refine vIf_f ?_))
    (refine retK_of ?_; (repeat (first | simp (maxSteps := 2000000) (disch := omega) only [go_sem, ↓reduceIte] | with_reducible refine vIf_t ?_ | with_reducible refine vIf_f ?_)))
    have : d = 0 := by omega
    subst this
    simp at he
    rw [he]
theorem absS_ok (a : Int) (ha : 0 ≤ a) : ACalls Tryz.prog 67 [I a] [] (fun r o => r = I a ∧ o = []) := by
  refine ACalls.of_vc Tryz.func67 rfl (by decide) 8 rfl [.tmp 2] rfl (by simp) ?_
  (repeat (first | simp (maxSteps := 2000000) (disch := omega) only [go_sem, ↓reduceIte] | with_reducible refine vIf_t ?_ | with_reducible refine vIf_f ?_))
  (refine retK_of ?_; (repeat (first | simp (maxSteps := 2000000) (disch := omega) only [go_sem, ↓reduceIte] | with_reducible refine vIf_t ?_ | with_reducible refine vIf_f ?_)))
theorem abs_ok (a : Int) (ha : 0 ≤ a ∧ a ≤ 1000000000000000000) : ACalls Tryz.prog 63 [I a] [] (fun r o => r = I a ∧ o = []) := by
  refine ACalls.of_vc Tryz.func63 rfl (by decide) 7 rfl [.tmp 2] rfl (by simp) ?_
  (repeat (first | simp (maxSteps := 2000000) (disch := omega) only [go_sem, ↓reduceIte] | with_reducible refine vIf_t ?_ | with_reducible refine vIf_f ?_))
  (refine retK_of ?_; (repeat (first | simp (maxSteps := 2000000) (disch := omega) only [go_sem, ↓reduceIte] | with_reducible refine vIf_t ?_ | with_reducible refine vIf_f ?_)))
  rw [if_neg (by omega)]
def fq (x a b : Nat) : Int := IntKind.wrap .i64 ((x : Int).tdiv (Nat.gcd a b : Nat))
theorem frS_ok (a b : Nat) (ha : a ≤ 1000000000000000000) (hb : 1 ≤ b ∧ b ≤ 1000000000000000000) : ACalls Tryz.prog 72 [I a, I b] [] (fun r o => r = .agg [I (fq a a b), I (fq b a b)] ∧ o = []) := by
  refine ACalls.of_vc Tryz.func72 rfl (by decide) 17 rfl [.cell 4 42] rfl (by simp) ?_
  have hg : 0 < Nat.gcd a b := Nat.gcd_pos_of_pos_right a (by omega)
  (repeat (first | simp (maxSteps := 2000000) (disch := omega) only [go_sem, ↓reduceIte] | with_reducible refine vIf_t ?_ | with_reducible refine vIf_f ?_))
  (refine vCallX_of ?_; (repeat (first | simp (maxSteps := 2000000) (disch := omega) only [go_sem, ↓reduceIte] | with_reducible refine vIf_t ?_ | with_reducible refine vIf_f ?_)); refine vCall_eq (absS_ok a (by omega)) (by simp (disch := omega) only [go_sem]) rfl (by first | exact Or.inl rfl | exact Or.inr ⟨rfl, rfl⟩ | (apply Or.inr; simp only [go_sem])) ?_; (repeat (first | simp (maxSteps := 2000000) (disch := omega) only [go_sem, ↓reduceIte] | with_reducible refine vIf_t ?_ | with_reducible refine vIf_f ?_)))
  (refine vCallX_of ?_; (repeat (first | simp (maxSteps := 2000000) (disch := omega) only [go_sem, ↓reduceIte] | with_reducible refine vIf_t ?_ | with_reducible refine vIf_f ?_)); refine vCall_eq (gcdS_ok a b ha hb.2) (by simp (disch := omega) only [go_sem]) rfl (by first | exact Or.inl rfl | exact Or.inr ⟨rfl, rfl⟩ | (apply Or.inr; simp only [go_sem])) ?_; (repeat (first | simp (maxSteps := 2000000) (disch := omega) only [go_sem, ↓reduceIte] | with_reducible refine vIf_t ?_ | with_reducible refine vIf_f ?_)))
  (refine vDraw_tail 6 mixed (by kernel_rfl) ?_; simp only [List.take_succ_cons, List.take_zero, List.drop_succ_cons, List.drop_zero]; (repeat (first | simp (maxSteps := 2000000) (disch := omega) only [go_sem, ↓reduceIte] | with_reducible refine vIf_t ?_ | with_reducible refine vIf_f ?_)))
  (refine retK_of ?_; (repeat (first | simp (maxSteps := 2000000) (disch := omega) only [go_sem, ↓reduceIte] | with_reducible refine vIf_t ?_ | with_reducible refine vIf_f ?_)))
  simp [fq]

theorem gcd_ok (a b : Nat) (ha : a ≤ 1000000000000000000) (hb : b ≤ 1000000000000000000) : ACalls Tryz.prog 108 [I a, I b] [] (fun r o => r = I (Nat.gcd a b) ∧ o = []) := by
  refine ACalls.of_vc Tryz.func108 rfl (by decide) 12 rfl [.tmp 4] rfl (by simp) ?_
  (repeat (first | simp (maxSteps := 2000000) (disch := omega) only [go_sem, ↓reduceIte] | with_reducible refine vIf_t ?_ | with_reducible refine vIf_f ?_))
  refine vcLoop_inv (fun q : Nat × Nat => q.1 ≤ 1000000000000000000 ∧ q.2 ≤ 1000000000000000000 ∧ Nat.gcd q.1 q.2 = Nat.gcd a b) (fun q => ⟨12, 0, [(0, I q.1), (1, I q.2)], []⟩) (fun q => q.2) (a, b) ⟨ha, hb, rfl⟩ (by (repeat (first | simp (maxSteps := 2000000) (disch := omega) only [go_sem, ↓reduceIte] | with_reducible refine vIf_t ?_ | with_reducible refine vIf_f ?_))) ?_
  rintro ⟨c, d⟩ ⟨hc, hd, he⟩
  dsimp only at hc hd he ⊢
  (repeat (first | simp (maxSteps := 2000000) (disch := omega) only [go_sem, ↓reduceIte] | with_reducible refine vIf_t ?_ | with_reducible refine vIf_f ?_))
  refine vIf_dec (fun h => ?_) (fun h => ?_)
  · have e1 : (c : Int).tmod (d : Int) = ((c % d : Nat) : Int) := by rw [Int.ofNat_tmod]
    have e2 : c % d < d := Nat.mod_lt _ (by omega)
    (repeat (first | simp (maxSteps := 2000000) (disch := omega) only [go_sem, ↓reduceIte] | with_reducible refine vIf_t ?_ | with_reducible refine vIf_f ?_))
    refine vDraw_of mixed (by kernel_rfl) ?_
    (repeat (first | simp (maxSteps := 2000000) (disch := omega) only [go_sem, ↓reduceIte, e1] | with_reducible refine vIf_t ?_ | with_reducible refine vIf_f ?_))
    refine again (d, c % d) ⟨hd, by show c % d ≤ 1000000000000000000; omega, by show Nat.gcd d (c % d) = _; rw [← he, Nat.gcd_comm c d, Nat.gcd_rec d c, Nat.gcd_comm]⟩ (by show c % d < d; omega) ?_
    (repeat (first | simp (maxSteps := 2000000) (disch := omega) only [go_sem, ↓reduceIte] | with_reducible refine vIf_t ?_ | with_reducible refine vIf_f ?_))
  · (repeat (first | simp (maxSteps := 2000000) (disch := omega) only [go_sem, ↓reduceIte] | with_reducible refine vIf_t ?_ | with_reducible refine vIf_f ?_))
    (refine retK_of ?_; (repeat (first | simp (maxSteps := 2000000) (disch := omega) only [go_sem, ↓reduceIte] | with_reducible refine vIf_t ?_ | with_reducible refine vIf_f ?_)))
    have : d = 0 := by omega
    subst this
    simp at he
    rw [he]
theorem fr_ok (a b : Nat) (ha : a ≤ 1000000000000000000) (hb : 1 ≤ b ∧ b ≤ 1000000000000000000) : ACalls Tryz.prog 70 [I a, I b] [] (fun r o => r = .agg [I (fq a a b), I (fq b a b)] ∧ o = []) := by
  refine ACalls.of_vc Tryz.func70 rfl (by decide) 17 rfl [.cell 4 42] rfl (by simp) ?_
  have hg : 0 < Nat.gcd a b := Nat.gcd_pos_of_pos_right a (by omega)
  (repeat (first | simp (maxSteps := 2000000) (disch := omega) only [go_sem, ↓reduceIte] | with_reducible refine vIf_t ?_ | with_reducible refine vIf_f ?_))
  (refine vCallX_of ?_; (repeat (first | simp (maxSteps := 2000000) (disch := omega) only [go_sem, ↓reduceIte] | with_reducible refine vIf_t ?_ | with_reducible refine vIf_f ?_)); refine vCall_eq (abs_ok a (by omega)) (by simp (disch := omega) only [go_sem]) rfl (by first | exact Or.inl rfl | exact Or.inr ⟨rfl, rfl⟩ | (apply Or.inr; simp only [go_sem])) ?_; (repeat (first | simp (maxSteps := 2000000) (disch := omega) only [go_sem, ↓reduceIte] | with_reducible refine vIf_t ?_ | with_reducible refine vIf_f ?_)))
  (refine vCallX_of ?_; (repeat (first | simp (maxSteps := 2000000) (disch := omega) only [go_sem, ↓reduceIte] | with_reducible refine vIf_t ?_ | with_reducible refine vIf_f ?_)); refine vCall_eq (gcd_ok a b ha hb.2) (by simp (disch := omega) only [go_sem]) rfl (by first | exact Or.inl rfl | exact Or.inr ⟨rfl, rfl⟩ | (apply Or.inr; simp only [go_sem])) ?_; (repeat (first | simp (maxSteps := 2000000) (disch := omega) only [go_sem, ↓reduceIte] | with_reducible refine vIf_t ?_ | with_reducible refine vIf_f ?_)))
  (refine vDraw_tail 6 mixed (by kernel_rfl) ?_; simp only [List.take_succ_cons, List.take_zero, List.drop_succ_cons, List.drop_zero]; (repeat (first | simp (maxSteps := 2000000) (disch := omega) only [go_sem, ↓reduceIte] | with_reducible refine vIf_t ?_ | with_reducible refine vIf_f ?_)))
  (refine retK_of ?_; (repeat (first | simp (maxSteps := 2000000) (disch := omega) only [go_sem, ↓reduceIte] | with_reducible refine vIf_t ?_ | with_reducible refine vIf_f ?_)))
  simp [fq]

def qC (xs : List Int) (m s : Int) : Int := if okV xs 1000000 = true then if (1 ≤ m ∧ m ≤ 60) ∧ (1 ≤ s ∧ s ≤ 2) then 0 else 2 else 1
theorem qC_ok {xs : List Int} {m s : Int} (h : qC xs m s = 0) : okV xs 1000000 = true ∧ (1 ≤ m ∧ m ≤ 60) ∧ (1 ≤ s ∧ s ≤ 2) := by
  unfold qC at h
  split at h
  · rename_i h1
    split at h
    · rename_i h2; exact ⟨h1, h2⟩
    · cases h
  · cases h
theorem okV_sum {xs : List Int} {m : Int} (hm : 0 ≤ m ∧ m ≤ 1000000) (h : okV xs m = true) : 1 ≤ wsum xs ∧ wsum xs ≤ 8000000 ∧ xs.length ≤ 8 ∧ 1 ≤ xs.length ∧ wsum xs = sumI xs := by
  unfold okV at h
  simp only [Bool.and_eq_true, decide_eq_true_eq, List.all_eq_true] at h
  obtain ⟨⟨h1, h2⟩, h3⟩ := h
  have := wsum_eq xs 1000000 (by omega) (fun x hx => by have := h1 x hx; omega) (by omega)
  omega
def quA (xs : List Int) (m : Int) : Int := if qC xs m 1 = 0 then fq (wsum xs).toNat (wsum xs).toNat m.toNat else 0
def quB (xs : List Int) (m : Int) : Int := if qC xs m 1 = 0 then fq m.toNat (wsum xs).toNat m.toNat else 0
end Go.Proofs.YtjgjnedenapemaaGreatDoor

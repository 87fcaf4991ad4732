/- the water of days: the worst days, what is pumped of all that goes out -/
import Derived.Test.YtneokdflhleidaaGreatDoorWat3
import Derived.Test.YtneokdflhleidaaGreatDoorX9
set_option linter.unusedVariables false
set_option linter.unusedSimpArgs false
namespace Go.Proofs.YtneokdflhleidaaGreatDoor
open Go.AG

theorem cWt_hd (ds : List Wt) (h : 0 < ds.length) : (cWt ds).take 5 = (gWt ds 0).cells := by
  have := cWt_take ds 1
  rw [Nat.one_mul] at this
  rw [this, gWt_take_succ ds 0 h, List.take_zero, List.nil_append, cWt_one]
/-- the sum of the nets of n days from day i on -/
def sgK (ds : List Wt) (i : Nat) : Nat → Int
  | 0 => 0
  | j + 1 => sgK ds i j + wtN (gWt ds (i + j))
theorem sgK_bd {ds : List Wt} (h : ds.all wtB = true) (i j : Nat) (hj : i + j ≤ ds.length) : -30000000 * j ≤ sgK ds i j ∧ sgK ds i j ≤ 20000000 * j := by
  induction j with
  | zero => simp [sgK]
  | succ j ih =>
    have := ih (by omega)
    have := wtN_bd (wt_all h (i + j) (by omega))
    simp only [sgK]
    omega
/-- the worst days among those seen so far -/
structure WdI (ds : List Wt) (i k f e : Nat) (m : Int) : Prop where
  fe : f ≤ e
  lt : e < ds.length
  eq : m = sgK ds f (e + 1 - f)
  mx : ∀ a b, a ≤ b → b < ds.length → (a < i ∨ (a = i ∧ b < k)) → sgK ds a (b + 1 - a) ≤ m
  st : ∀ a b, a ≤ b → b < ds.length → (a < f ∨ (a = f ∧ b < e)) → sgK ds a (b + 1 - a) < m
theorem WdI.start {ds : List Wt} (h : 0 < ds.length) : WdI ds 0 0 0 0 (wtN (gWt ds 0)) :=
  ⟨by omega, h, by simp [sgK], fun a b h1 h2 h3 => by omega, fun a b h1 h2 h3 => by omega⟩
theorem WdI.yes {ds : List Wt} {i k f e : Nat} {m n : Int} (h : WdI ds i k f e m) (hik : i ≤ k) (hk : k < ds.length) (hn : n = sgK ds i (k + 1 - i)) (hm : m < n) : WdI ds i (k + 1) i k n :=
  ⟨hik, hk, hn, fun a b h1 h2 h3 => by
    by_cases e : a = i ∧ b = k
    · rw [e.1, e.2, ← hn]; exact Int.le_refl _
    · have := h.mx a b h1 h2 (by omega); omega, fun a b h1 h2 h3 => by have := h.mx a b h1 h2 (by omega); omega⟩
theorem WdI.no {ds : List Wt} {i k f e : Nat} {m n : Int} (h : WdI ds i k f e m) (hik : i ≤ k) (hn : n = sgK ds i (k + 1 - i)) (hm : ¬ m < n) : WdI ds i (k + 1) f e m :=
  ⟨h.fe, h.lt, h.eq, fun a b h1 h2 h3 => by
    by_cases e : a = i ∧ b = k
    · rw [e.1, e.2, ← hn]; omega
    · exact h.mx a b h1 h2 (by omega), h.st⟩
theorem WdI.next {ds : List Wt} {i k f e : Nat} {m : Int} (h : WdI ds i k f e m) (hk : ds.length ≤ k) : WdI ds (i + 1) 0 f e m :=
  ⟨h.fe, h.lt, h.eq, fun a b h1 h2 h3 => h.mx a b h1 h2 (by omega), h.st⟩
theorem WdI.into {ds : List Wt} {i f e : Nat} {m : Int} (h : WdI ds i 0 f e m) : WdI ds i i f e m :=
  ⟨h.fe, h.lt, h.eq, fun a b h1 h2 h3 => h.mx a b h1 h2 (by omega), h.st⟩
theorem WdI.uniq {ds : List Wt} {i j k l f e f' e' : Nat} {m m' : Int} (h : WdI ds i k f e m) (h' : WdI ds j l f' e' m') (hi : ds.length ≤ i) (hj : ds.length ≤ j) : f = f' ∧ e = e' ∧ m = m' := by
  have h1 := h.mx f' e' h'.fe h'.lt (by have := h'.fe; have := h'.lt; omega)
  have h2 := h'.mx f e h.fe h.lt (by have := h.fe; have := h.lt; omega)
  have e1 := h.eq
  have e2 := h'.eq
  have hm : m = m' := by omega
  rcases Nat.lt_trichotomy f f' with hf | hf | hf
  · have := h'.st f e h.fe h.lt (.inl hf); omega
  · rcases Nat.lt_trichotomy e e' with he | he | he
    · have := h'.st f e h.fe h.lt (.inr ⟨hf, he⟩); omega
    · exact ⟨hf, he, hm⟩
    · have := h.st f' e' h'.fe h'.lt (.inr ⟨hf.symm, he⟩); omega
  · have := h.st f' e' h'.fe h'.lt (.inl hf); omega
/-- the code of the worst days -/
def wdC (ds : List Wt) : Int := if rcW ds 0 = 0 then if ds.length = 0 then 3 else 0 else rcW ds 0
def WdR (ds : List Wt) (f e : Nat) (m : Int) : Prop := (wdC ds = 0 → WdI ds ds.length 0 f e m) ∧ (wdC ds ≠ 0 → f = 0 ∧ e = 0 ∧ m = 0)
theorem WdR.uniq {ds : List Wt} {f e f' e' : Nat} {m m' : Int} (h : WdR ds f e m) (h' : WdR ds f' e' m') : f = f' ∧ e = e' ∧ m = m' := by
  by_cases hc : wdC ds = 0
  · exact (h.1 hc).uniq (h'.1 hc) (Nat.le_refl _) (Nat.le_refl _)
  · have := h.2 hc; have := h'.2 hc; omega
/-- the sums of all amounts of the first k days -/
def smW (ds : List Wt) : Nat → Wt
  | 0 => ⟨0, 0, 0, 0, 0⟩
  | k + 1 => ⟨(smW ds k).rain + (gWt ds k).rain, (smW ds k).seep + (gWt ds k).seep, (smW ds k).evap + (gWt ds k).evap, (smW ds k).pump + (gWt ds k).pump, (smW ds k).slu + (gWt ds k).slu⟩
structure SmF (p : Wt) (k : Nat) : Prop where
  rain : 0 ≤ p.rain ∧ p.rain ≤ 10000000 * k
  seep : 0 ≤ p.seep ∧ p.seep ≤ 10000000 * k
  evap : 0 ≤ p.evap ∧ p.evap ≤ 10000000 * k
  pump : 0 ≤ p.pump ∧ p.pump ≤ 10000000 * k
  slu : 0 ≤ p.slu ∧ p.slu ≤ 10000000 * k
theorem smW_bd {ds : List Wt} (h : ds.all wtB = true) (k : Nat) (hk : k ≤ ds.length) : SmF (smW ds k) k := by
  induction k with
  | zero => exact ⟨by simp [smW], by simp [smW], by simp [smW], by simp [smW], by simp [smW]⟩
  | succ k ih =>
    obtain ⟨a, b, c, d, e⟩ := ih (by omega)
    obtain ⟨a1, b1, c1, d1, e1⟩ := wt_all h k (by omega)
    refine ⟨?_, ?_, ?_, ?_, ?_⟩ <;> simp only [smW] <;> omega
set_option maxRecDepth 20000 in
set_option maxHeartbeats 4000000 in
theorem sumOf_ok (ds : List Wt) (h : ds.all wtB = true) (hl : ds.length ≤ 100) : ACalls Tryz.prog 85 [.sl ds.length (cWt ds)] [] (fun r o => r = .agg (smW ds ds.length).cells ∧ o = []) := by
  refine ACalls.of_vc Tryz.func85 rfl (by decide) 41 rfl [.cell 2 35] rfl (by simp) ?_
  (repeat (first | simp (maxSteps := 2000000) (disch := omega) only [go_sem, ↓reduceIte, Nat.reduceEqDiff, Nat.reduceAdd, Nat.reduceMul, Nat.reduceSub, Int.reduceToNat, Int.reduceAdd, Int.reduceSub, Int.reduceMul, Int.reduceNeg] | with_reducible refine vIf_t ?_ | with_reducible refine vIf_f ?_))
  refine vcLoop_invF (fun k : Nat => k ≤ ds.length) (fun k => ⟨41, 0, [(9, I k), (3, .ptr 1 0), (7, .sl ds.length (cWt ds)), (2, .ptr 0 0), (8, I ds.length)], [some ⟨5, [I 0, I 0, I 0, I 0, I 0]⟩, some ⟨5, [I (smW ds k).rain, I (smW ds k).seep, I (smW ds k).evap, I (smW ds k).pump, I (smW ds k).slu]⟩]⟩) (fun k => ds.length - k) 0 (by omega) (by simp only [smW]; (first | (refine leF_s ?_; ((repeat (first | simp (maxSteps := 2000000) (disch := omega) only [go_sem, ↓reduceIte, Nat.reduceEqDiff, Nat.reduceAdd, Nat.reduceMul, Nat.reduceSub, Int.reduceToNat, Int.reduceAdd, Int.reduceSub, Int.reduceMul, Int.reduceNeg] | with_reducible refine vIf_t ?_ | with_reducible refine vIf_f ?_)); all_goals (try simp); all_goals (try omega)); done) | (refine leF_p ?_; ((repeat (first | simp (maxSteps := 2000000) (disch := omega) only [go_sem, ↓reduceIte, Nat.reduceEqDiff, Nat.reduceAdd, Nat.reduceMul, Nat.reduceSub, Int.reduceToNat, Int.reduceAdd, Int.reduceSub, Int.reduceMul, Int.reduceNeg] | with_reducible refine vIf_t ?_ | with_reducible refine vIf_f ?_)); all_goals (try simp); all_goals (try omega)); done))) ?_
  intro k hk
  (repeat (first | simp (maxSteps := 2000000) (disch := omega) only [go_sem, ↓reduceIte, Nat.reduceEqDiff, Nat.reduceAdd, Nat.reduceMul, Nat.reduceSub, Int.reduceToNat, Int.reduceAdd, Int.reduceSub, Int.reduceMul, Int.reduceNeg] | with_reducible refine vIf_t ?_ | with_reducible refine vIf_f ?_))
  refine vIf_dec (fun h2 => ?_) (fun h2 => ?_)
  · obtain ⟨a, b, c, d, e⟩ := smW_bd h k (by omega)
    obtain ⟨a1, b1, c1, d1, e1⟩ := wt_all h k (by omega)
    (repeat (first | simp (maxSteps := 2000000) (disch := omega) only [go_sem, ↓reduceIte, Nat.reduceEqDiff, Nat.reduceAdd, Nat.reduceMul, Nat.reduceSub, Int.reduceToNat, Int.reduceAdd, Int.reduceSub, Int.reduceMul, Int.reduceNeg] | with_reducible refine vIf_t ?_ | with_reducible refine vIf_f ?_))
    refine againF (k + 1) (by omega) (by omega) ?_
    simp only [smW]
    (first | (refine leF_s ?_; ((repeat (first | simp (maxSteps := 2000000) (disch := omega) only [go_sem, ↓reduceIte, Nat.reduceEqDiff, Nat.reduceAdd, Nat.reduceMul, Nat.reduceSub, Int.reduceToNat, Int.reduceAdd, Int.reduceSub, Int.reduceMul, Int.reduceNeg] | with_reducible refine vIf_t ?_ | with_reducible refine vIf_f ?_)); all_goals (try simp); all_goals (try omega)); done) | (refine leF_p ?_; ((repeat (first | simp (maxSteps := 2000000) (disch := omega) only [go_sem, ↓reduceIte, Nat.reduceEqDiff, Nat.reduceAdd, Nat.reduceMul, Nat.reduceSub, Int.reduceToNat, Int.reduceAdd, Int.reduceSub, Int.reduceMul, Int.reduceNeg] | with_reducible refine vIf_t ?_ | with_reducible refine vIf_f ?_)); all_goals (try simp); all_goals (try omega)); done))
  · (repeat (first | simp (maxSteps := 2000000) (disch := omega) only [go_sem, ↓reduceIte, Nat.reduceEqDiff, Nat.reduceAdd, Nat.reduceMul, Nat.reduceSub, Int.reduceToNat, Int.reduceAdd, Int.reduceSub, Int.reduceMul, Int.reduceNeg] | with_reducible refine vIf_t ?_ | with_reducible refine vIf_f ?_))
    (refine retK_of ?_; (repeat (first | simp (maxSteps := 2000000) (disch := omega) only [go_sem, ↓reduceIte, Nat.reduceEqDiff, Nat.reduceAdd, Nat.reduceMul, Nat.reduceSub, Int.reduceToNat, Int.reduceAdd, Int.reduceSub, Int.reduceMul, Int.reduceNeg] | with_reducible refine vIf_t ?_ | with_reducible refine vIf_f ?_)))
    rw [show k = ds.length by omega]
    rfl
set_option maxRecDepth 20000 in
set_option maxHeartbeats 4000000 in
theorem l13Sum_ok (ds : List Wt) (h : ds.all wtB = true) (hl : ds.length ≤ 100) : ACalls Tryz.prog 88 [.sl ds.length (cWt ds)] [] (fun r o => r = .agg (smW ds ds.length).cells ∧ o = []) := by
  refine ACalls.of_vc Tryz.func88 rfl (by decide) 58 rfl [.cell 2 35] rfl (by simp) ?_
  (repeat (first | simp (maxSteps := 2000000) (disch := omega) only [go_sem, ↓reduceIte, Nat.reduceEqDiff, Nat.reduceAdd, Nat.reduceMul, Nat.reduceSub, Int.reduceToNat, Int.reduceAdd, Int.reduceSub, Int.reduceMul, Int.reduceNeg] | with_reducible refine vIf_t ?_ | with_reducible refine vIf_f ?_))
  refine vcLoop_invF (fun k : Nat => k ≤ ds.length) (fun k => ⟨58, 0, [(4, I k), (3, .ptr 1 0), (0, .sl ds.length (cWt ds)), (2, .ptr 0 0)], [some ⟨5, [I 0, I 0, I 0, I 0, I 0]⟩, some ⟨5, [I (smW ds k).rain, I (smW ds k).seep, I (smW ds k).evap, I (smW ds k).pump, I (smW ds k).slu]⟩]⟩) (fun k => ds.length - k) 0 (by omega) (by simp only [smW]; (first | (refine leF_s ?_; ((repeat (first | simp (maxSteps := 2000000) (disch := omega) only [go_sem, ↓reduceIte, Nat.reduceEqDiff, Nat.reduceAdd, Nat.reduceMul, Nat.reduceSub, Int.reduceToNat, Int.reduceAdd, Int.reduceSub, Int.reduceMul, Int.reduceNeg] | with_reducible refine vIf_t ?_ | with_reducible refine vIf_f ?_)); all_goals (try simp); all_goals (try omega)); done) | (refine leF_p ?_; ((repeat (first | simp (maxSteps := 2000000) (disch := omega) only [go_sem, ↓reduceIte, Nat.reduceEqDiff, Nat.reduceAdd, Nat.reduceMul, Nat.reduceSub, Int.reduceToNat, Int.reduceAdd, Int.reduceSub, Int.reduceMul, Int.reduceNeg] | with_reducible refine vIf_t ?_ | with_reducible refine vIf_f ?_)); all_goals (try simp); all_goals (try omega)); done))) ?_
  intro k hk
  (repeat (first | simp (maxSteps := 2000000) (disch := omega) only [go_sem, ↓reduceIte, Nat.reduceEqDiff, Nat.reduceAdd, Nat.reduceMul, Nat.reduceSub, Int.reduceToNat, Int.reduceAdd, Int.reduceSub, Int.reduceMul, Int.reduceNeg] | with_reducible refine vIf_t ?_ | with_reducible refine vIf_f ?_))
  refine vIf_dec (fun h2 => ?_) (fun h2 => ?_)
  · obtain ⟨a, b, c, d, e⟩ := smW_bd h k (by omega)
    obtain ⟨a1, b1, c1, d1, e1⟩ := wt_all h k (by omega)
    (repeat (first | simp (maxSteps := 2000000) (disch := omega) only [go_sem, ↓reduceIte, Nat.reduceEqDiff, Nat.reduceAdd, Nat.reduceMul, Nat.reduceSub, Int.reduceToNat, Int.reduceAdd, Int.reduceSub, Int.reduceMul, Int.reduceNeg] | with_reducible refine vIf_t ?_ | with_reducible refine vIf_f ?_))
    (refine vDraw_tail 7 mixed (by kernel_rfl) ?_; simp only [List.take_succ_cons, List.take_zero, List.drop_succ_cons, List.drop_zero]; (repeat (first | simp (maxSteps := 2000000) (disch := omega) only [go_sem, ↓reduceIte, Nat.reduceEqDiff, Nat.reduceAdd, Nat.reduceMul, Nat.reduceSub, Int.reduceToNat, Int.reduceAdd, Int.reduceSub, Int.reduceMul, Int.reduceNeg] | with_reducible refine vIf_t ?_ | with_reducible refine vIf_f ?_)))
    (refine vDraw_tail 7 mixed (by kernel_rfl) ?_; simp only [List.take_succ_cons, List.take_zero, List.drop_succ_cons, List.drop_zero]; (repeat (first | simp (maxSteps := 2000000) (disch := omega) only [go_sem, ↓reduceIte, Nat.reduceEqDiff, Nat.reduceAdd, Nat.reduceMul, Nat.reduceSub, Int.reduceToNat, Int.reduceAdd, Int.reduceSub, Int.reduceMul, Int.reduceNeg] | with_reducible refine vIf_t ?_ | with_reducible refine vIf_f ?_)))
    (refine vDraw_tail 7 mixed (by kernel_rfl) ?_; simp only [List.take_succ_cons, List.take_zero, List.drop_succ_cons, List.drop_zero]; (repeat (first | simp (maxSteps := 2000000) (disch := omega) only [go_sem, ↓reduceIte, Nat.reduceEqDiff, Nat.reduceAdd, Nat.reduceMul, Nat.reduceSub, Int.reduceToNat, Int.reduceAdd, Int.reduceSub, Int.reduceMul, Int.reduceNeg] | with_reducible refine vIf_t ?_ | with_reducible refine vIf_f ?_)))
    (refine vDraw_tail 7 mixed (by kernel_rfl) ?_; simp only [List.take_succ_cons, List.take_zero, List.drop_succ_cons, List.drop_zero]; (repeat (first | simp (maxSteps := 2000000) (disch := omega) only [go_sem, ↓reduceIte, Nat.reduceEqDiff, Nat.reduceAdd, Nat.reduceMul, Nat.reduceSub, Int.reduceToNat, Int.reduceAdd, Int.reduceSub, Int.reduceMul, Int.reduceNeg] | with_reducible refine vIf_t ?_ | with_reducible refine vIf_f ?_)))
    (refine vDraw_tail 7 mixed (by kernel_rfl) ?_; simp only [List.take_succ_cons, List.take_zero, List.drop_succ_cons, List.drop_zero]; (repeat (first | simp (maxSteps := 2000000) (disch := omega) only [go_sem, ↓reduceIte, Nat.reduceEqDiff, Nat.reduceAdd, Nat.reduceMul, Nat.reduceSub, Int.reduceToNat, Int.reduceAdd, Int.reduceSub, Int.reduceMul, Int.reduceNeg] | with_reducible refine vIf_t ?_ | with_reducible refine vIf_f ?_)))
    refine againF (k + 1) (by omega) (by omega) ?_
    simp only [smW]
    (first | (refine leF_s ?_; ((repeat (first | simp (maxSteps := 2000000) (disch := omega) only [go_sem, ↓reduceIte, Nat.reduceEqDiff, Nat.reduceAdd, Nat.reduceMul, Nat.reduceSub, Int.reduceToNat, Int.reduceAdd, Int.reduceSub, Int.reduceMul, Int.reduceNeg] | with_reducible refine vIf_t ?_ | with_reducible refine vIf_f ?_)); all_goals (try simp); all_goals (try omega)); done) | (refine leF_p ?_; ((repeat (first | simp (maxSteps := 2000000) (disch := omega) only [go_sem, ↓reduceIte, Nat.reduceEqDiff, Nat.reduceAdd, Nat.reduceMul, Nat.reduceSub, Int.reduceToNat, Int.reduceAdd, Int.reduceSub, Int.reduceMul, Int.reduceNeg] | with_reducible refine vIf_t ?_ | with_reducible refine vIf_f ?_)); all_goals (try simp); all_goals (try omega)); done))
  · (repeat (first | simp (maxSteps := 2000000) (disch := omega) only [go_sem, ↓reduceIte, Nat.reduceEqDiff, Nat.reduceAdd, Nat.reduceMul, Nat.reduceSub, Int.reduceToNat, Int.reduceAdd, Int.reduceSub, Int.reduceMul, Int.reduceNeg] | with_reducible refine vIf_t ?_ | with_reducible refine vIf_f ?_))
    (refine retK_of ?_; (repeat (first | simp (maxSteps := 2000000) (disch := omega) only [go_sem, ↓reduceIte, Nat.reduceEqDiff, Nat.reduceAdd, Nat.reduceMul, Nat.reduceSub, Int.reduceToNat, Int.reduceAdd, Int.reduceSub, Int.reduceMul, Int.reduceNeg] | with_reducible refine vIf_t ?_ | with_reducible refine vIf_f ?_)))
    rw [show k = ds.length by omega]
    rfl
theorem fq_le (a b : Nat) (hab : a ≤ b) (hb : b ≤ 1000000000000000000) : 0 ≤ fq a a b ∧ fq a a b ≤ fq b a b := by
  have e : ∀ x : Nat, ((x : Int).tdiv (Nat.gcd a b : Nat)) = ((x / Nat.gcd a b : Nat) : Int) := fun x => by rw [Int.ofNat_tdiv]
  have h1 : a / Nat.gcd a b ≤ b / Nat.gcd a b := Nat.div_le_div_right hab
  have h2 : b / Nat.gcd a b ≤ b := Nat.div_le_self _ _
  have h3 : a / Nat.gcd a b ≤ a := Nat.div_le_self _ _
  rw [fq, fq, e, e]
  generalize a / Nat.gcd a b = u at *
  generalize b / Nat.gcd a b = v at *
  rw [wrap_i64_id _ (by omega), wrap_i64_id _ (by omega)]
  omega
def psO (ds : List Wt) : Int := (smW ds ds.length).evap + (smW ds ds.length).pump + (smW ds ds.length).slu
def psC (ds : List Wt) : Int := if rcW ds 0 = 0 then if psO ds = 0 then 3 else 0 else rcW ds 0
def psN (ds : List Wt) : Int := if psC ds = 0 then fq (smW ds ds.length).pump.toNat (smW ds ds.length).pump.toNat (psO ds).toNat else 0
def psD (ds : List Wt) : Int := if psC ds = 0 then fq (psO ds).toNat (smW ds ds.length).pump.toNat (psO ds).toNat else 0
end Go.Proofs.YtneokdflhleidaaGreatDoor

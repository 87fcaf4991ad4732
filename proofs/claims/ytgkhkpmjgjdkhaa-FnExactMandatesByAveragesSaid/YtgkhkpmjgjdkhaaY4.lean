/- the greatest averages: all mandates -/
import Derived.Test.YtgkhkpmjgjdkhaaY2
import Derived.Test.YtgkhkpmjgjdkhaaY3
import Derived.Test.YtgkhkpmjgjdkhaaX9
set_option linter.unusedVariables false
set_option linter.unusedSimpArgs false
namespace Go.Proofs.Ytgkhkpmjgjdkhaa
open Go.AG

@[go_sem] theorem elem_c (a b : Nat) (l : List Nat) : List.elem a (b :: l) = (decide (a = b) || List.elem a l) := by
  by_cases h : a = b <;> simp [h]
@[go_sem] theorem or_f (b : Bool) : (false || b) = b := Bool.false_or b
@[go_sem] theorem or_t (b : Bool) : (true || b) = true := Bool.true_or b
@[go_sem] theorem not_f : (!false) = true := rfl
/-- the mandates after m rounds, and the best of the last one -/
def avg (v : List Int) (s : Int) : Nat → List Int × List Int
  | 0 => (List.replicate v.length 0, [])
  | m + 1 => let l := nx v (avg v s m).1 s v.length v.length
    (((avg v s m).1.set (gi l 0).toNat (gi (avg v s m).1 (gi l 0).toNat + 1)), l)

theorem nx_ne {v h : List Int} {s : Int} (g : AvOk v h s) : ∀ k, k < v.length → nx v h s (k + 1) (k + 1) ≠ [] := by
  have tot : ∀ i k, i < v.length → k < v.length → Rv v h s i k = true ∨ Rv v h s k i = true := fun i k hi hk => Rv_tot g i k hi hk
  have tr : ∀ i k l, i < v.length → k < v.length → l < v.length → Rv v h s i k = true → Rv v h s k l = true → Rv v h s i l = true := fun i k l hi hk hl => Rv_tr g i k l hi hk hl
  intro k
  induction k with
  | zero => intro _; rw [nx_first]; simp
  | succ k ih =>
    intro hk
    have hne := ih (by omega)
    obtain ⟨t, ht1, ht2, ht3⟩ := nx_top hne
    cases h1 : Rv v h s t (k + 1) with
    | false => rw [nx_eq (bst_old tot tr hk ht3 h1)]; exact hne
    | true => cases h2 : Rv v h s (k + 1) t with
      | true => rw [nx_snoc (bst_same tot tr hk ht3 h1 h2)]; simp
      | false => rw [nx_one (bst_new tot tr hk ht3 h1 h2)]; simp

structure AvIn (v : List Int) (s : Int) : Prop where
  le8 : v.length ≤ 8
  ge1 : 1 ≤ v.length
  step : 1 ≤ s ∧ s ≤ 2
  votes : ∀ i, i < v.length → 0 ≤ gi v i ∧ gi v i ≤ 1000000

theorem avg_ok {v : List Int} {s : Int} (g : AvIn v s) : ∀ m : Nat, (avg v s m).1.length = v.length ∧ ∀ i, i < v.length → 0 ≤ gi (avg v s m).1 i ∧ gi (avg v s m).1 i ≤ m := by
  intro m
  induction m with
  | zero =>
    refine ⟨by simp [avg], fun i hi => ?_⟩
    have : gi (avg v s 0).1 i = 0 := by
      unfold avg
      rw [gi_lt _ _ (by simpa using hi)]; simp
    rw [this]; omega
  | succ m ih =>
    obtain ⟨h1, h2⟩ := ih
    refine ⟨by simp [avg, h1], fun i hi => ?_⟩
    simp only [avg]
    by_cases h : (gi (nx v (avg v s m).1 s v.length v.length) 0).toNat = i
    · rw [h, gi_set_same _ _ _ (by omega)]
      have := h2 i hi
      omega
    · rw [gi_set_ne _ _ _ _ h]
      have := h2 i hi
      omega
theorem avg_in {v : List Int} {s : Int} (g : AvIn v s) (m : Nat) (hm : m ≤ 60) : AvOk v (avg v s m).1 s :=
  ⟨(avg_ok g m).1, g.le8, g.step, g.votes, fun i hi => by have := (avg_ok g m).2 i hi; omega⟩

set_option maxHeartbeats 4000000 in
theorem avS_ok (v : List Int) (m : Nat) (s : Int) (g : AvIn v s) (hm : m ≤ 60) : ACalls Try.prog 62 [iS v, I m, I s] [] (fun r o => r = .tup [.ref 0 0 v.length, .ref 1 0 (avg v s m).2.length] ∧ o = [oI (avg v s m).1, oI (avg v s m).2]) := by
  refine ACalls.of_vc Try.func62 rfl (by decide) 34 rfl [.tmp 6, .tmp 7] rfl (by simp) ?_
  have hl := g.le8
  simp (maxSteps := 2000000) (disch := omega) only [go_sem, Nat.reduceEqDiff, Nat.reduceAdd, Nat.reduceMul, Nat.reduceSub, Int.reduceToNat, Int.reduceAdd, Int.reduceSub, Int.reduceMul, Int.reduceNeg]
  refine vcLoop_inv (fun k : Nat => k ≤ m) (fun k => ⟨34, 0, [(10, I k), (8, .ref 0 0 v.length), (9, .ref 1 0 (avg v s k).2.length), (0, .sl v.length (ints v)), (1, I m), (2, I s)], [some ⟨1, ints (avg v s k).1⟩, some ⟨1, ints (avg v s k).2⟩]⟩) (fun k => m - k) 0 (by simp) (by simp (maxSteps := 2000000) (disch := omega) only [go_sem, Nat.reduceEqDiff, Nat.reduceAdd, Nat.reduceMul, Nat.reduceSub, Int.reduceToNat, Int.reduceAdd, Int.reduceSub, Int.reduceMul, Int.reduceNeg, avg]; all_goals (try simp)) ?_
  intro k hk
  have hlen := (avg_ok g k).1
  simp (maxSteps := 2000000) (disch := omega) only [go_sem, Nat.reduceEqDiff, Nat.reduceAdd, Nat.reduceMul, Nat.reduceSub, Int.reduceToNat, Int.reduceAdd, Int.reduceSub, Int.reduceMul, Int.reduceNeg]
  refine vIf_dec (fun hc => ?_) (fun hc => ?_)
  · have ga := avg_in g k (by omega)
    simp (maxSteps := 2000000) (disch := omega) only [go_sem, Nat.reduceEqDiff, Nat.reduceAdd, Nat.reduceMul, Nat.reduceSub, Int.reduceToNat, Int.reduceAdd, Int.reduceSub, Int.reduceMul, Int.reduceNeg]
    have hc := next_ok v (avg v s k).1 s ga
    unfold iS at hc
    rw [hlen] at hc
    have hne := nx_ne ga (v.length - 1) (by have := g.ge1; omega)
    rw [show v.length - 1 + 1 = v.length from by have := g.ge1; omega] at hne
    obtain ⟨t, ht1, ht2, ht3⟩ := nx_top hne
    have hpos := List.length_pos_iff.2 hne
    have htt : (gi (nx v (avg v s k).1 s v.length v.length) 0).toNat = t := by omega
    have hb := (avg_ok g k).2 t ht2
    have e1 : (avg v s (k + 1)).1 = (avg v s k).1.set t (gi (avg v s k).1 t + 1) := by simp only [avg, htt]
    have e2 : (avg v s (k + 1)).2 = nx v (avg v s k).1 s v.length v.length := rfl
    (refine vCallX_of ?_; simp (maxSteps := 2000000) (disch := omega) only [go_sem, Nat.reduceEqDiff, Nat.reduceAdd, Nat.reduceMul, Nat.reduceSub, Int.reduceToNat, Int.reduceAdd, Int.reduceSub, Int.reduceMul, Int.reduceNeg]; refine vCall_eq (hc) (by simp (disch := omega) only [go_sem, Nat.reduceAdd]) rfl (by first | exact Or.inl rfl | exact Or.inr ⟨rfl, rfl⟩ | (apply Or.inr; simp only [go_sem])) ?_; simp (maxSteps := 2000000) (disch := omega) only [go_sem, Nat.reduceEqDiff, Nat.reduceAdd, Nat.reduceMul, Nat.reduceSub, Int.reduceToNat, Int.reduceAdd, Int.reduceSub, Int.reduceMul, Int.reduceNeg])
    simp (maxSteps := 2000000) (disch := omega) only [go_sem, Nat.reduceEqDiff, Nat.reduceAdd, Nat.reduceMul, Nat.reduceSub, Int.reduceToNat, Int.reduceAdd, Int.reduceSub, Int.reduceMul, Int.reduceNeg, htt]
    refine again_new (k + 1) (by omega) (by omega) ?_
    simp (maxSteps := 2000000) (disch := omega) only [go_sem, Nat.reduceEqDiff, Nat.reduceAdd, Nat.reduceMul, Nat.reduceSub, Int.reduceToNat, Int.reduceAdd, Int.reduceSub, Int.reduceMul, Int.reduceNeg, e1, e2]
  · have e : k = m := by omega
    subst e
    simp (maxSteps := 2000000) (disch := omega) only [go_sem, Nat.reduceEqDiff, Nat.reduceAdd, Nat.reduceMul, Nat.reduceSub, Int.reduceToNat, Int.reduceAdd, Int.reduceSub, Int.reduceMul, Int.reduceNeg]
    (refine retK_of ?_; simp (maxSteps := 2000000) (disch := omega) only [go_sem, Nat.reduceEqDiff, Nat.reduceAdd, Nat.reduceMul, Nat.reduceSub, Int.reduceToNat, Int.reduceAdd, Int.reduceSub, Int.reduceMul, Int.reduceNeg])
set_option maxHeartbeats 4000000 in
theorem av_ok (v : List Int) (m : Nat) (s : Int) (g : AvIn v s) (hm : m ≤ 60) : ACalls Try.prog 63 [iS v, I m, I s] [] (fun r o => r = .tup [.ref 0 0 v.length, .ref 1 0 (avg v s m).2.length] ∧ o = [oI (avg v s m).1, oI (avg v s m).2]) := by
  refine ACalls.of_vc Try.func63 rfl (by decide) 32 rfl [.tmp 6, .tmp 7] rfl (by simp) ?_
  have hl := g.le8
  simp (maxSteps := 2000000) (disch := omega) only [go_sem, Nat.reduceEqDiff, Nat.reduceAdd, Nat.reduceMul, Nat.reduceSub, Int.reduceToNat, Int.reduceAdd, Int.reduceSub, Int.reduceMul, Int.reduceNeg]
  refine vcLoop_inv (fun k : Nat => k ≤ m) (fun k => ⟨32, 0, [(8, .ref 0 0 v.length), (9, .ref 1 0 (avg v s k).2.length), (0, .sl v.length (ints v)), (1, I ((m : Int) - k)), (2, I s)], [some ⟨1, ints (avg v s k).1⟩, some ⟨1, ints (avg v s k).2⟩]⟩) (fun k => m - k) 0 (by simp) (by simp (maxSteps := 2000000) (disch := omega) only [go_sem, Nat.reduceEqDiff, Nat.reduceAdd, Nat.reduceMul, Nat.reduceSub, Int.reduceToNat, Int.reduceAdd, Int.reduceSub, Int.reduceMul, Int.reduceNeg, avg]; all_goals (try simp)) ?_
  intro k hk
  have hlen := (avg_ok g k).1
  simp (maxSteps := 2000000) (disch := omega) only [go_sem, Nat.reduceEqDiff, Nat.reduceAdd, Nat.reduceMul, Nat.reduceSub, Int.reduceToNat, Int.reduceAdd, Int.reduceSub, Int.reduceMul, Int.reduceNeg]
  refine vIf_dec (fun hc => ?_) (fun hc => ?_)
  · have ga := avg_in g k (by omega)
    simp (maxSteps := 2000000) (disch := omega) only [go_sem, Nat.reduceEqDiff, Nat.reduceAdd, Nat.reduceMul, Nat.reduceSub, Int.reduceToNat, Int.reduceAdd, Int.reduceSub, Int.reduceMul, Int.reduceNeg]
    have hc := best_ok v (avg v s k).1 s ga
    unfold iS at hc
    rw [hlen] at hc
    have hne := nx_ne ga (v.length - 1) (by have := g.ge1; omega)
    rw [show v.length - 1 + 1 = v.length from by have := g.ge1; omega] at hne
    obtain ⟨t, ht1, ht2, ht3⟩ := nx_top hne
    have hpos := List.length_pos_iff.2 hne
    have htt : (gi (nx v (avg v s k).1 s v.length v.length) 0).toNat = t := by omega
    have hb := (avg_ok g k).2 t ht2
    have e1 : (avg v s (k + 1)).1 = (avg v s k).1.set t (gi (avg v s k).1 t + 1) := by simp only [avg, htt]
    have e2 : (avg v s (k + 1)).2 = nx v (avg v s k).1 s v.length v.length := rfl
    (refine vCallX_of ?_; simp (maxSteps := 2000000) (disch := omega) only [go_sem, Nat.reduceEqDiff, Nat.reduceAdd, Nat.reduceMul, Nat.reduceSub, Int.reduceToNat, Int.reduceAdd, Int.reduceSub, Int.reduceMul, Int.reduceNeg]; refine vCall_eq (hc) (by simp (disch := omega) only [go_sem, Nat.reduceAdd]) rfl (by first | exact Or.inl rfl | exact Or.inr ⟨rfl, rfl⟩ | (apply Or.inr; simp only [go_sem])) ?_; simp (maxSteps := 2000000) (disch := omega) only [go_sem, Nat.reduceEqDiff, Nat.reduceAdd, Nat.reduceMul, Nat.reduceSub, Int.reduceToNat, Int.reduceAdd, Int.reduceSub, Int.reduceMul, Int.reduceNeg])
    simp (maxSteps := 2000000) (disch := omega) only [go_sem, Nat.reduceEqDiff, Nat.reduceAdd, Nat.reduceMul, Nat.reduceSub, Int.reduceToNat, Int.reduceAdd, Int.reduceSub, Int.reduceMul, Int.reduceNeg, htt]
    refine again_new (k + 1) (by omega) (by omega) ?_
    simp (maxSteps := 2000000) (disch := omega) only [go_sem, Nat.reduceEqDiff, Nat.reduceAdd, Nat.reduceMul, Nat.reduceSub, Int.reduceToNat, Int.reduceAdd, Int.reduceSub, Int.reduceMul, Int.reduceNeg, e1, e2]
    omega
  · have e : k = m := by omega
    subst e
    simp (maxSteps := 2000000) (disch := omega) only [go_sem, Nat.reduceEqDiff, Nat.reduceAdd, Nat.reduceMul, Nat.reduceSub, Int.reduceToNat, Int.reduceAdd, Int.reduceSub, Int.reduceMul, Int.reduceNeg]
    (refine retK_of ?_; simp (maxSteps := 2000000) (disch := omega) only [go_sem, Nat.reduceEqDiff, Nat.reduceAdd, Nat.reduceMul, Nat.reduceSub, Int.reduceToNat, Int.reduceAdd, Int.reduceSub, Int.reduceMul, Int.reduceNeg])

theorem okV_in {xs : List Int} {s : Int} (h : okV xs 1000000 = true) (hs : 1 ≤ s ∧ s ≤ 2) : AvIn xs s := by
  have h0 := okV_sum (by omega) h
  unfold okV at h
  simp only [Bool.and_eq_true, decide_eq_true_eq, List.all_eq_true] at h
  exact ⟨h0.2.2.1, h0.2.2.2.1, hs, fun i hi => h.1.1 _ (gi_mem xs i hi)⟩
def maR (v : List Int) (m s : Int) : List Int := if qC v m s = 0 then (avg v s m.toNat).1 else []
theorem maS_ok (v : List Int) (m s : Int) (hl : v.length ≤ 10000000) : ACalls Try.prog 29 [iS v, I m, I s] [] (fun r o => r = .tup [iS (maR v m s), I (qC v m s)] ∧ o = []) := by
  refine ACalls.leT (Q := fun r o => (r = .tup [iS (maR v m s), I (qC v m s)] ∧ o = []) ∨ (r = .tup [nilS, I (qC v m s)] ∧ maR v m s = [] ∧ o = [])) ?_ ?_
  rotate_left
  · intro r o hq
    rcases hq with ⟨rfl, rfl⟩ | ⟨rfl, h, rfl⟩
    · exact ⟨_, leR_refl _, rfl, rfl⟩
    · rw [h]; exact ⟨_, leR_nil2 _, rfl, rfl⟩
  refine ACalls.of_vc Try.func29 rfl (by decide) 26 rfl [.tmp 6, .tmp 7] rfl (by simp) ?_
  simp (maxSteps := 2000000) (disch := omega) only [go_sem, Nat.reduceEqDiff, Nat.reduceAdd, Nat.reduceMul, Nat.reduceSub, Int.reduceToNat, Int.reduceAdd, Int.reduceSub, Int.reduceMul, Int.reduceNeg]
  (refine vCallX_of ?_; simp (maxSteps := 2000000) (disch := omega) only [go_sem, Nat.reduceEqDiff, Nat.reduceAdd, Nat.reduceMul, Nat.reduceSub, Int.reduceToNat, Int.reduceAdd, Int.reduceSub, Int.reduceMul, Int.reduceNeg]; refine vCall_eq (codeS_ok v m s hl) (by simp (disch := omega) only [go_sem, Nat.reduceAdd]) rfl (by first | exact Or.inl rfl | exact Or.inr ⟨rfl, rfl⟩ | (apply Or.inr; simp only [go_sem])) ?_; simp (maxSteps := 2000000) (disch := omega) only [go_sem, Nat.reduceEqDiff, Nat.reduceAdd, Nat.reduceMul, Nat.reduceSub, Int.reduceToNat, Int.reduceAdd, Int.reduceSub, Int.reduceMul, Int.reduceNeg])
  refine vIf_bne (fun h => ?_) (fun h => ?_)
  · simp (maxSteps := 2000000) (disch := omega) only [go_sem, Nat.reduceEqDiff, Nat.reduceAdd, Nat.reduceMul, Nat.reduceSub, Int.reduceToNat, Int.reduceAdd, Int.reduceSub, Int.reduceMul, Int.reduceNeg]
    (refine retK_of ?_; simp (maxSteps := 2000000) (disch := omega) only [go_sem, Nat.reduceEqDiff, Nat.reduceAdd, Nat.reduceMul, Nat.reduceSub, Int.reduceToNat, Int.reduceAdd, Int.reduceSub, Int.reduceMul, Int.reduceNeg])
    simp [maR, h]
  · obtain ⟨h1, h2, h3⟩ := qC_ok h
    have g := okV_in h1 h3
    have e2 : m = (m.toNat : Int) := by omega
    have hlen := (avg_ok g m.toNat).1
    have hc := avS_ok v m.toNat s g (by omega)
    rw [← e2] at hc
    simp (maxSteps := 2000000) (disch := omega) only [go_sem, Nat.reduceEqDiff, Nat.reduceAdd, Nat.reduceMul, Nat.reduceSub, Int.reduceToNat, Int.reduceAdd, Int.reduceSub, Int.reduceMul, Int.reduceNeg]
    (refine vCallX_of ?_; simp (maxSteps := 2000000) (disch := omega) only [go_sem, Nat.reduceEqDiff, Nat.reduceAdd, Nat.reduceMul, Nat.reduceSub, Int.reduceToNat, Int.reduceAdd, Int.reduceSub, Int.reduceMul, Int.reduceNeg]; refine vCall_eq (hc) (by simp (disch := omega) only [go_sem, Nat.reduceAdd]) rfl (by first | exact Or.inl rfl | exact Or.inr ⟨rfl, rfl⟩ | (apply Or.inr; simp only [go_sem])) ?_; simp (maxSteps := 2000000) (disch := omega) only [go_sem, Nat.reduceEqDiff, Nat.reduceAdd, Nat.reduceMul, Nat.reduceSub, Int.reduceToNat, Int.reduceAdd, Int.reduceSub, Int.reduceMul, Int.reduceNeg])
    refine retK_frz (.step 0 ⟨1, ints (avg v s m.toNat).1⟩ rfl (by simp (maxSteps := 2000000) (disch := omega) only [go_sem, Nat.reduceEqDiff, Nat.reduceAdd, Nat.reduceMul, Nat.reduceSub, Int.reduceToNat, Int.reduceAdd, Int.reduceSub, Int.reduceMul, Int.reduceNeg]) (.refl _)) ?_
    simp (maxSteps := 2000000) (disch := omega) only [go_sem, Nat.reduceEqDiff, Nat.reduceAdd, Nat.reduceMul, Nat.reduceSub, Int.reduceToNat, Int.reduceAdd, Int.reduceSub, Int.reduceMul, Int.reduceNeg]
    simp [maR, h, hlen]
theorem ma_ok (v : List Int) (m s : Int) (hl : v.length ≤ 10000000) : ACalls Try.prog 30 [iS v, I m, I s] [] (fun r o => r = .tup [.ref 0 0 (maR v m s).length, I (qC v m s)] ∧ o = [oI (maR v m s)]) := by
  refine ACalls.of_vc Try.func30 rfl (by decide) 27 rfl [.tmp 6, .tmp 7] rfl (by simp) ?_
  simp (maxSteps := 2000000) (disch := omega) only [go_sem, Nat.reduceEqDiff, Nat.reduceAdd, Nat.reduceMul, Nat.reduceSub, Int.reduceToNat, Int.reduceAdd, Int.reduceSub, Int.reduceMul, Int.reduceNeg]
  (refine vCallX_of ?_; simp (maxSteps := 2000000) (disch := omega) only [go_sem, Nat.reduceEqDiff, Nat.reduceAdd, Nat.reduceMul, Nat.reduceSub, Int.reduceToNat, Int.reduceAdd, Int.reduceSub, Int.reduceMul, Int.reduceNeg]; refine vCall_eq (code_ok v m s hl) (by simp (disch := omega) only [go_sem, Nat.reduceAdd]) rfl (by first | exact Or.inl rfl | exact Or.inr ⟨rfl, rfl⟩ | (apply Or.inr; simp only [go_sem])) ?_; simp (maxSteps := 2000000) (disch := omega) only [go_sem, Nat.reduceEqDiff, Nat.reduceAdd, Nat.reduceMul, Nat.reduceSub, Int.reduceToNat, Int.reduceAdd, Int.reduceSub, Int.reduceMul, Int.reduceNeg])
  refine vIf_bne (fun h => ?_) (fun h => ?_)
  · simp (maxSteps := 2000000) (disch := omega) only [go_sem, Nat.reduceEqDiff, Nat.reduceAdd, Nat.reduceMul, Nat.reduceSub, Int.reduceToNat, Int.reduceAdd, Int.reduceSub, Int.reduceMul, Int.reduceNeg]
    (refine retK_of ?_; simp (maxSteps := 2000000) (disch := omega) only [go_sem, Nat.reduceEqDiff, Nat.reduceAdd, Nat.reduceMul, Nat.reduceSub, Int.reduceToNat, Int.reduceAdd, Int.reduceSub, Int.reduceMul, Int.reduceNeg])
    simp [maR, h, ints]
  · obtain ⟨h1, h2, h3⟩ := qC_ok h
    have g := okV_in h1 h3
    have e2 : m = (m.toNat : Int) := by omega
    have hlen := (avg_ok g m.toNat).1
    have hc := av_ok v m.toNat s g (by omega)
    rw [← e2] at hc
    simp (maxSteps := 2000000) (disch := omega) only [go_sem, Nat.reduceEqDiff, Nat.reduceAdd, Nat.reduceMul, Nat.reduceSub, Int.reduceToNat, Int.reduceAdd, Int.reduceSub, Int.reduceMul, Int.reduceNeg]
    (refine vCallX_of ?_; simp (maxSteps := 2000000) (disch := omega) only [go_sem, Nat.reduceEqDiff, Nat.reduceAdd, Nat.reduceMul, Nat.reduceSub, Int.reduceToNat, Int.reduceAdd, Int.reduceSub, Int.reduceMul, Int.reduceNeg]; refine vCall_eq (hc) (by simp (disch := omega) only [go_sem, Nat.reduceAdd]) rfl (by first | exact Or.inl rfl | exact Or.inr ⟨rfl, rfl⟩ | (apply Or.inr; simp only [go_sem])) ?_; simp (maxSteps := 2000000) (disch := omega) only [go_sem, Nat.reduceEqDiff, Nat.reduceAdd, Nat.reduceMul, Nat.reduceSub, Int.reduceToNat, Int.reduceAdd, Int.reduceSub, Int.reduceMul, Int.reduceNeg])
    (refine retK_of ?_; simp (maxSteps := 2000000) (disch := omega) only [go_sem, Nat.reduceEqDiff, Nat.reduceAdd, Nat.reduceMul, Nat.reduceSub, Int.reduceToNat, Int.reduceAdd, Int.reduceSub, Int.reduceMul, Int.reduceNeg])
    simp [maR, h, hlen]
end Go.Proofs.Ytgkhkpmjgjdkhaa

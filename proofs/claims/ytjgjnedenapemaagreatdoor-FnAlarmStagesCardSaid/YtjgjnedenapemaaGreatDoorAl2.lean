/- alarms: the stages hour by hour -/
import Derived.Test.YtjgjnedenapemaaGreatDoorAl1
import Derived.Test.YtjgjnedenapemaaGreatDoorFzC
set_option linter.unusedVariables false
set_option linter.unusedSimpArgs false
namespace Go.Proofs.YtjgjnedenapemaaGreatDoor
open Go.AG

attribute [local go_sem] beq_self_eq_true bne_self_eq_false Bool.not_true Bool.not_false
/-- the greatest one of d numbers from a on, and 0 -/
def mxZ (f : Nat → Int) (a : Nat) : Nat → Int
  | 0 => 0
  | d + 1 => if mxZ f a d < f (a + d) then f (a + d) else mxZ f a d
theorem mxZ_congr {f g : Nat → Int} {a b : Nat} : ∀ d, (∀ i, i < d → f (a + i) = g (b + i)) → mxZ f a d = mxZ g b d
  | 0, _ => rfl
  | d + 1, h => by rw [mxZ, mxZ, mxZ_congr d (fun i hi => h i (by omega)), h d (by omega)]
theorem mxZ_le (f : Nat → Int) (a : Nat) : ∀ d i, i < d → f (a + i) ≤ mxZ f a d
  | 0, i, h => by omega
  | d + 1, i, h => by
    rw [mxZ]
    rcases Nat.lt_succ_iff_lt_or_eq.1 h with h | rfl
    · have := mxZ_le f a d i h
      split <;> omega
    · split <;> omega
theorem mxZ_bd {f : Nat → Int} {a : Nat} {b : Int} (hb : 0 ≤ b) : ∀ d, (∀ i, i < d → f (a + i) ≤ b) → 0 ≤ mxZ f a d ∧ mxZ f a d ≤ b
  | 0, _ => ⟨Int.le_refl _, hb⟩
  | d + 1, h => by
    have := mxZ_bd (f := f) (a := a) hb d fun i hi => h i (by omega)
    have := h d (by omega)
    rw [mxZ]
    split <;> omega
theorem greatestZ_ok (xs : List Int) (hx : 0 < xs.length ∧ xs.length ≤ 10000000) (hz : ∀ i, i < xs.length → 0 ≤ gi xs i) : ACalls Tryz.prog 95 [.sl xs.length (ints xs)] [] (fun r o => r = I (mxZ (gi xs) 0 xs.length) ∧ o = []) := by
  refine ACalls.of_vc Tryz.func95 rfl (by decide) 20 rfl [.tmp 2] rfl (by simp) ?_
  obtain ⟨h0, h1⟩ := hx
  (repeat (first | simp (maxSteps := 2000000) (disch := omega) only [go_sem, ↓reduceIte] | with_reducible refine vIf_t ?_ | with_reducible refine vIf_f ?_))
  refine vcLoop_invF (fun x : Nat × Int => x.1 ≤ xs.length ∧ (x.1 = 0 → x.2 = gi xs 0) ∧ (0 < x.1 → x.2 = mxZ (gi xs) 0 x.1)) (fun x => ⟨20, 0, [(11, I x.1), (10, I xs.length), (9, .sl xs.length (ints xs)), (3, I x.2)], []⟩) (fun x => xs.length - x.1) (0, gi xs 0) ⟨by simp, fun _ => rfl, fun h => by simp at h⟩ (by (first | (refine leF_s ?_; ((repeat (first | simp (maxSteps := 2000000) (disch := omega) only [go_sem, ↓reduceIte] | with_reducible refine vIf_t ?_ | with_reducible refine vIf_f ?_)); all_goals (try simp); all_goals (try omega)); done) | (refine leF_p ?_; ((repeat (first | simp (maxSteps := 2000000) (disch := omega) only [go_sem, ↓reduceIte] | with_reducible refine vIf_t ?_ | with_reducible refine vIf_f ?_)); all_goals (try simp); all_goals (try omega)); done))) ?_
  rintro ⟨k, n⟩ ⟨hk, hn1, hn2⟩
  simp only at hk hn1 hn2
  (repeat (first | simp (maxSteps := 2000000) (disch := omega) only [go_sem, ↓reduceIte] | with_reducible refine vIf_t ?_ | with_reducible refine vIf_f ?_))
  refine vIf_dec (fun h => ?_) (fun h => ?_)
  · have hkl : k < xs.length := by omega
    (repeat (first | simp (maxSteps := 2000000) (disch := omega) only [go_sem, ↓reduceIte] | with_reducible refine vIf_t ?_ | with_reducible refine vIf_f ?_))
    refine againF (k + 1, if n < gi xs k then gi xs k else n) ⟨by simp only; omega, fun h => by simp at h, fun _ => ?_⟩ (by simp only; omega) (by (first | (refine leF_s ?_; ((repeat (first | simp (maxSteps := 2000000) (disch := omega) only [go_sem, ↓reduceIte] | with_reducible refine vIf_t ?_ | with_reducible refine vIf_f ?_)); all_goals (try simp); all_goals (try omega)); done) | (refine leF_p ?_; ((repeat (first | simp (maxSteps := 2000000) (disch := omega) only [go_sem, ↓reduceIte] | with_reducible refine vIf_t ?_ | with_reducible refine vIf_f ?_)); all_goals (try simp); all_goals (try omega)); done)))
    simp only [mxZ, Nat.zero_add]
    rcases Nat.eq_zero_or_pos k with e | e
    · have hn := hn1 e
      have := hz 0 (by omega)
      subst e
      simp only [mxZ]
      rw [hn, if_neg (by omega)]
      show gi xs 0 = if (0 : Int) < gi xs 0 then gi xs 0 else 0
      by_cases q : 0 < gi xs 0
      · rw [if_pos q]
      · rw [if_neg q]; omega
    · rw [hn2 e]
  · (repeat (first | simp (maxSteps := 2000000) (disch := omega) only [go_sem, ↓reduceIte] | with_reducible refine vIf_t ?_ | with_reducible refine vIf_f ?_))
    (refine retK_of ?_; (repeat (first | simp (maxSteps := 2000000) (disch := omega) only [go_sem, ↓reduceIte] | with_reducible refine vIf_t ?_ | with_reducible refine vIf_f ?_)))
    rw [hn2 (by omega), show k = xs.length by omega]
/-- the stage that holds after k hours -/
def nwS (sg : Nat → Int) (h : Nat) : Nat → Int
  | 0 => 0
  | k + 1 => if h ≤ k then (if mxZ sg (k - h) (h + 1) < (if nwS sg h k < sg k then sg k else nwS sg h k) then mxZ sg (k - h) (h + 1) else (if nwS sg h k < sg k then sg k else nwS sg h k)) else (if nwS sg h k < sg k then sg k else nwS sg h k)
theorem nwS_bd {sg : Nat → Int} (h : Nat) {b : Int} (hb : 0 ≤ b) (hs : ∀ i, 0 ≤ sg i ∧ sg i ≤ b) : ∀ k, 0 ≤ nwS sg h k ∧ nwS sg h k ≤ b
  | 0 => ⟨Int.le_refl _, hb⟩
  | k + 1 => by
    have h1 := nwS_bd h hb hs k
    have h2 := hs k
    have h3 := mxZ_bd (f := sg) (a := k - h) hb (h + 1) fun i hi => (hs _).2
    rw [nwS]
    have hM : 0 ≤ (if nwS sg h k < sg k then sg k else nwS sg h k) ∧ (if nwS sg h k < sg k then sg k else nwS sg h k) ≤ b := by split <;> omega
    generalize (if nwS sg h k < sg k then sg k else nwS sg h k) = M at hM ⊢
    by_cases c : h ≤ k
    · rw [if_pos c]
      by_cases c2 : mxZ sg (k - h) (h + 1) < M
      · rw [if_pos c2]; exact h3
      · rw [if_neg c2]; exact hM
    · rw [if_neg c]; exact hM
def sgN (xs ls : List Int) (i : Nat) : Int := stg xs (gi ls i)
def sgL (xs ls : List Int) (k : Nat) : List Int := (List.range k).map (sgN xs ls)
def stL (xs ls : List Int) (h k : Nat) : List Int := (List.range k).map fun i => nwS (sgN xs ls) h (i + 1)
theorem sgL_len (xs ls : List Int) (k : Nat) : (sgL xs ls k).length = k := by simp [sgL]
theorem stL_len (xs ls : List Int) (h k : Nat) : (stL xs ls h k).length = k := by simp [stL]
theorem sgL_gi (xs ls : List Int) (k i : Nat) (h : i < k) : gi (sgL xs ls k) i = sgN xs ls i := by simp [gi, sgL, h]
theorem stL_gi (xs ls : List Int) (h k i : Nat) (hi : i < k) : gi (stL xs ls h k) i = nwS (sgN xs ls) h (i + 1) := by simp [gi, stL, hi]
theorem sgL_succ (xs ls : List Int) (k : Nat) : sgL xs ls (k + 1) = sgL xs ls k ++ [sgN xs ls k] := by simp [sgL, List.range_succ]
theorem stL_succ (xs ls : List Int) (h k : Nat) : stL xs ls h (k + 1) = stL xs ls h k ++ [nwS (sgN xs ls) h (k + 1)] := by simp [stL, List.range_succ]
theorem sgN_bd {xs ls : List Int} (hx : xs.length ≤ 5) (i : Nat) : 0 ≤ sgN xs ls i ∧ sgN xs ls i ≤ 5 := by
  have := stg_le xs (gi ls i)
  unfold sgN
  omega
set_option maxHeartbeats 4000000 in
theorem alarmStages_ok (xs ls : List Int) (h : Nat) (hx : xs.length ≤ 5) (hl : ls.length ≤ 200) (hh : h ≤ 100) : ACalls Tryz.prog 49 [.sl xs.length (ints xs), .sl ls.length (ints ls), I h] [] (fun r o => r = .ref 0 0 ls.length ∧ o = [oI (stL xs ls h ls.length)]) := by
  refine ACalls.of_vc Tryz.func49 rfl (by decide) 51 rfl [.tmp 6] rfl (by simp) ?_
  (repeat (first | simp (maxSteps := 2000000) (disch := omega) only [go_sem, ↓reduceIte] | with_reducible refine vIf_t ?_ | with_reducible refine vIf_f ?_))
  refine vcLoop_invF (fun k : Nat => k ≤ ls.length) (fun k => ⟨51, 0, [(17, I k), (7, .ref 0 0 k), (2, I h), (9, I (nwS (sgN xs ls) h k)), (0, .sl xs.length (ints xs)), (8, .ref 1 0 k), (15, .sl ls.length (ints ls)), (16, I ls.length)], [oI (stL xs ls h k), oI (sgL xs ls k)]⟩) (fun k => ls.length - k) 0 (by omega) ?_ ?_
  · rw [show nwS (sgN xs ls) h 0 = 0 from rfl, show stL xs ls h 0 = [] from rfl, show sgL xs ls 0 = [] from rfl]
    (first | (refine leF_s ?_; ((repeat (first | simp (maxSteps := 2000000) (disch := omega) only [go_sem, ↓reduceIte] | with_reducible refine vIf_t ?_ | with_reducible refine vIf_f ?_)); all_goals (try simp); all_goals (try omega)); done) | (refine leF_p ?_; ((repeat (first | simp (maxSteps := 2000000) (disch := omega) only [go_sem, ↓reduceIte] | with_reducible refine vIf_t ?_ | with_reducible refine vIf_f ?_)); all_goals (try simp); all_goals (try omega)); done))
  intro k hk
  have hs := stageOf_ok xs (gi ls k) (by omega)
  rw [show (stg xs (gi ls k) : Int) = sgN xs ls k from rfl] at hs
  have l1 := sgL_len xs ls k
  have l2 := stL_len xs ls h k
  have b1 := nwS_bd (sg := sgN xs ls) h (b := 5) (by omega) (sgN_bd hx) k
  have b2 := sgN_bd (ls := ls) hx k
  have e1 := sgL_succ xs ls k
  have e2 := stL_succ xs ls h k
  have gk : gi (sgL xs ls k ++ [sgN xs ls k]) k = sgN xs ls k := by rw [← e1, sgL_gi _ _ _ _ (by omega)]
  (repeat (first | simp (maxSteps := 2000000) (disch := omega) only [go_sem, ↓reduceIte] | with_reducible refine vIf_t ?_ | with_reducible refine vIf_f ?_))
  refine vIf_dec (fun hc => ?_) (fun hc => ?_)
  · have hkl : k < ls.length := by omega
    (repeat (first | simp (maxSteps := 2000000) (disch := omega) only [go_sem, ↓reduceIte] | with_reducible refine vIf_t ?_ | with_reducible refine vIf_f ?_))
    (refine vCallX_of ?_; (repeat (first | simp (maxSteps := 2000000) (disch := omega) only [go_sem, ↓reduceIte] | with_reducible refine vIf_t ?_ | with_reducible refine vIf_f ?_)); refine vCall_eq (hs) (by simp (disch := omega) only [go_sem]) rfl (by first | exact Or.inl rfl | exact Or.inr ⟨rfl, rfl⟩ | (apply Or.inr; simp only [go_sem])) ?_; (repeat (first | simp (maxSteps := 2000000) (disch := omega) only [go_sem, ↓reduceIte] | with_reducible refine vIf_t ?_ | with_reducible refine vIf_f ?_)))
    (try (repeat (first | simp (maxSteps := 2000000) (disch := omega) only [go_sem, ↓reduceIte, gk] | with_reducible refine vIf_t ?_ | with_reducible refine vIf_f ?_)))
    by_cases c : h ≤ k
    · have d : decide (0 ≤ (k : Int) - h) = true := decide_eq_true (by omega)
      have j1 : ((k : Int) - h).toNat = k - h := by omega
      have j2 : ((k : Int) + 1 - (k - h)).toNat = h + 1 := by omega
      obtain ⟨ys, hys⟩ : ∃ ys, ys = (sgL xs ls k ++ [sgN xs ls k]).drop (k - h) := ⟨_, rfl⟩
      have hyl : ys.length = h + 1 := by rw [hys, ← e1, List.length_drop, sgL_len]; omega
      have hyg : ∀ i, i < h + 1 → gi ys i = sgN xs ls (k - h + i) := fun i hi => by
        rw [hys, ← e1]
        have : gi ((sgL xs ls (k + 1)).drop (k - h)) i = gi (sgL xs ls (k + 1)) (k - h + i) := by simp [gi]
        rw [this, sgL_gi _ _ _ _ (by omega)]
      have htk : (sgL xs ls k ++ [sgN xs ls k]).drop (k - h) = ((sgL xs ls k ++ [sgN xs ls k]).drop (k - h)).take (h + 1) := by
        rw [← hys, List.take_of_length_le (by omega)]
      have hgr := greatestZ_ok ys (by omega) (fun i hi => by rw [hyg i (by omega)]; exact (sgN_bd hx _).1)
      rw [hyl, mxZ_congr (b := k - h) (g := sgN xs ls) (h + 1) (fun i hi => by rw [Nat.zero_add]; exact hyg i hi), hys, htk] at hgr
      (try (repeat (first | simp (maxSteps := 2000000) (disch := omega) only [go_sem, ↓reduceIte, d, j1, j2] | with_reducible refine vIf_t ?_ | with_reducible refine vIf_f ?_)))
      (refine vCallX_of ?_; (repeat (first | simp (maxSteps := 2000000) (disch := omega) only [go_sem, ↓reduceIte] | with_reducible refine vIf_t ?_ | with_reducible refine vIf_f ?_)); refine vCall_eq (hgr) (by simp (disch := omega) only [go_sem]) rfl (by first | exact Or.inl rfl | exact Or.inr ⟨rfl, rfl⟩ | (apply Or.inr; simp only [go_sem])) ?_; (repeat (first | simp (maxSteps := 2000000) (disch := omega) only [go_sem, ↓reduceIte] | with_reducible refine vIf_t ?_ | with_reducible refine vIf_f ?_)))
      refine againF (k + 1) (by omega) (by omega) ?_
      rw [e2, e1, nwS, if_pos c]
      (first | (refine leF_s ?_; ((repeat (first | simp (maxSteps := 2000000) (disch := omega) only [go_sem, ↓reduceIte] | with_reducible refine vIf_t ?_ | with_reducible refine vIf_f ?_)); all_goals (try simp); all_goals (try omega)); done) | (refine leF_p ?_; ((repeat (first | simp (maxSteps := 2000000) (disch := omega) only [go_sem, ↓reduceIte] | with_reducible refine vIf_t ?_ | with_reducible refine vIf_f ?_)); all_goals (try simp); all_goals (try omega)); done))
    · have d : decide (0 ≤ (k : Int) - h) = false := decide_eq_false (by omega)
      rw [nwS, if_neg c] at e2
      (try (repeat (first | simp (maxSteps := 2000000) (disch := omega) only [go_sem, ↓reduceIte, d] | with_reducible refine vIf_t ?_ | with_reducible refine vIf_f ?_)))
      refine againF (k + 1) (by omega) (by omega) ?_
      rw [nwS, if_neg c, e2, e1]
      (first | (refine leF_s ?_; ((repeat (first | simp (maxSteps := 2000000) (disch := omega) only [go_sem, ↓reduceIte] | with_reducible refine vIf_t ?_ | with_reducible refine vIf_f ?_)); all_goals (try simp); all_goals (try omega)); done) | (refine leF_p ?_; ((repeat (first | simp (maxSteps := 2000000) (disch := omega) only [go_sem, ↓reduceIte] | with_reducible refine vIf_t ?_ | with_reducible refine vIf_f ?_)); all_goals (try simp); all_goals (try omega)); done))
  · (repeat (first | simp (maxSteps := 2000000) (disch := omega) only [go_sem, ↓reduceIte] | with_reducible refine vIf_t ?_ | with_reducible refine vIf_f ?_))
    (refine retK_of ?_; (repeat (first | simp (maxSteps := 2000000) (disch := omega) only [go_sem, ↓reduceIte] | with_reducible refine vIf_t ?_ | with_reducible refine vIf_f ?_)))
    rw [show k = ls.length by omega]
    exact ⟨rfl, rfl⟩
end Go.Proofs.YtjgjnedenapemaaGreatDoor

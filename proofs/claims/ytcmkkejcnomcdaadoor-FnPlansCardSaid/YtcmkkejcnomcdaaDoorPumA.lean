/- pumping plans: what the latest plan pumps; costs (plain) -/
import Derived.Test.YtcmkkejcnomcdaaDoorPum6
set_option linter.unusedVariables false
set_option linter.unusedSimpArgs false
namespace Go.Proofs.YtcmkkejcnomcdaaDoor
open Go.AG

/-- the sum of a plan -/
def smL : List Int → Int
  | [] => 0
  | x :: xs => x + smL xs
theorem smL_app (xs ys : List Int) : smL (xs ++ ys) = smL xs + smL ys := by
  induction xs with
  | nil => simp [smL]
  | cons x r ih => simp only [List.cons_append, smL, ih]; omega
theorem latL_least {lo hi cap : Int} : ∀ (l : List Int) (w1 w2 : Int) (xs : List Int), w2 ≤ w1 → w1 ≤ tpL hi cap l → PlanOk lo hi cap l w2 xs → w2 - smL xs ≤ w1 - smL (latL hi cap l w1)
  | [], w1, w2, [], h, _, _ => by simp only [latL, smL]; omega
  | [], _, _, _ :: _, _, _, h => h.elim
  | _ :: _, _, _, [], _, _, h => h.elim
  | i :: r, w1, w2, x :: xs, h1, h2, h3 => by
    obtain ⟨a, b, c⟩ := h3
    have ht := (c.top b.2).1
    have hx : (if w1 + i - tpL hi cap r < 0 then 0 else w1 + i - tpL hi cap r) = (if w1 + i - tpL hi cap r < (0 : Int) then 0 else w1 + i - tpL hi cap r) := rfl
    simp only [latL, smL]
    generalize hz : (if w1 + i - tpL hi cap r < 0 then 0 else w1 + i - tpL hi cap r) = z
    have hz2 : (w1 + i - tpL hi cap r < 0 ∧ z = 0) ∨ (0 ≤ w1 + i - tpL hi cap r ∧ z = w1 + i - tpL hi cap r) := by
      split at hz <;> omega
    have := latL_least r (w1 + i - z) (w2 + i - x) xs (by omega) (by omega) c
    omega
/-- a plan at the price of one is its sum -/
theorem cstL_one : ∀ (n : Nat) (xs : List Int), xs.length ≤ n → cstL (List.replicate n 1) xs = smL xs
  | _, [], _ => rfl
  | 0, _ :: _, h => absurd h (by simp)
  | n + 1, x :: xs, h => by
    have := cstL_one n xs (by simpa using h)
    simp only [List.replicate_succ, cstL, smL, List.tail_cons, this]
    simp [gi]
theorem cstL_zero : ∀ (n : Nat) (xs : List Int), cstL (List.replicate n 0) xs = 0
  | _, [] => rfl
  | 0, x :: xs => by
    have := cstL_zero 0 xs
    simp only [List.replicate_zero, cstL, List.tail_nil] at this ⊢
    rw [this]; simp [gi]
  | n + 1, x :: xs => by
    have := cstL_zero n xs
    simp only [List.replicate_succ, cstL, List.tail_cons, this]
    simp [gi]
theorem Pr0_rep0 (n : Nat) : Pr0 (List.replicate n 0) := Pr0_rep n 0 (by omega)
theorem tail_rep (n : Nat) (c : Int) : (List.replicate n c).tail = List.replicate (n - 1) c := by cases n <;> simp [List.replicate_succ]
theorem gi_rep0 (n i : Nat) : gi (List.replicate n 0) i = 0 := by
  by_cases h : i < n
  · exact gi_rep n 0 i h
  · simp [gi, h]
theorem lfL_zero {lo hi cap : Int} {l : List Int} {n : Nat} {w : Int} (hc : 0 ≤ cap) (h : 0 ≤ lfL lo hi cap l (List.replicate n 0) w) : lfL lo hi cap l (List.replicate n 0) w = 0 := by
  obtain ⟨xs, hx⟩ := (lf_iff hc (Pr0_rep0 n)).1 h
  have := (lfL_le l _ w xs (Pr0_rep0 n) hx).2
  rw [cstL_zero] at this
  omega
/-- the latest plan takes the first amount each hour -/
theorem latL_fst {lo hi cap : Int} (hc : 0 ≤ cap) : ∀ (l : List Int) (n : Nat) (w : Int), (∀ i ∈ l, 0 ≤ i) → lo ≤ w → w ≤ tpL hi cap l → GoodT lo hi cap l → FstP lo hi cap l (List.replicate n 0) w (latL hi cap l w)
  | [], _, _, _, _, _, _ => trivial
  | i :: r, n, w, h0, h1, h2, h3 => by
    have hi1 := h0 i (by simp)
    have ht := tpL_hi hi cap r
    have hr0 : ∀ j ∈ r, 0 ≤ j := fun j hj => h0 j (by simp [hj])
    simp only [tpL] at h2
    have h2' : w + i - tpL hi cap r ≤ cap := by split at h2 <;> omega
    have h3' := h3.1
    simp only [latL]
    generalize hz : (if w + i - tpL hi cap r < 0 then 0 else w + i - tpL hi cap r) = z
    have hz2 : (w + i - tpL hi cap r < 0 ∧ z = 0) ∨ (0 ≤ w + i - tpL hi cap r ∧ z = w + i - tpL hi cap r) := by split at hz <;> omega
    have hP := Pr0_rep0 (n - 1)
    have hfe : ∀ v, lo ≤ v → v ≤ hi → (0 ≤ lfL lo hi cap r (List.replicate (n - 1) 0) v ↔ v ≤ tpL hi cap r) := by
      intro v a b
      rw [lf_iff hc hP, plan_iff hc hr0 a b]
      exact ⟨fun h => h.1, fun h => ⟨h, h3.2⟩⟩
    have hzn : ((z.toNat : Nat) : Int) = z := by omega
    have hfz := (hfe (w + i - z) (by omega) (by omega)).2 (by omega)
    have hlz := lfL_zero hc hfz
    have hok : okx lo hi (lfL lo hi cap r (List.replicate (n - 1) 0)) i w z.toNat = true := okx_iff.2 (by rw [hzn]; exact ⟨by omega, hfz⟩)
    have hall : 0 ≤ lfL lo hi cap (i :: r) (List.replicate n 0) w := by
      have := lfx_le (lo := lo) (hi := hi) (f := lfL lo hi cap r (List.replicate (n - 1) 0)) (i := i) (w := w) (pr := gi (List.replicate n 0) 0) (by rw [gi_rep0]; omega) (cap + 1).toNat z.toNat (by omega) hok
      simp only [lfL, tail_rep]
      exact this.1
    have hall0 := lfL_zero hc hall
    refine ⟨by omega, ⟨?_, ?_⟩, fun y hy => ?_, ?_⟩
    · rw [tail_rep]; exact hok
    · rw [tail_rep, hall0, hlz, gi_rep0]; omega
    · rintro ⟨hq, _⟩
      rw [tail_rep] at hq
      obtain ⟨q1, q2⟩ := okx_iff.1 hq
      have := (hfe _ q1.1 q1.2).1 q2
      omega
    · rw [tail_rep]
      exact latL_fst hc r (n - 1) _ hr0 (by omega) (by omega) h3.2
/-- the least sum of a plan is what the latest one pumps -/
theorem lfL_one {lo hi cap : Int} (hc : 0 ≤ cap) {l : List Int} {w : Int} (h0 : ∀ i ∈ l, 0 ≤ i) (h1 : lo ≤ w) (h2 : w ≤ tpL hi cap l) (h3 : GoodT lo hi cap l) : lfL lo hi cap l (List.replicate l.length 1) w = smL (latL hi cap l w) := by
  have hP := Pr0_rep l.length 1 (by omega)
  have hk := latL_ok (lo := lo) hc l w h0 h1 h2 h3
  have a := lfL_le l _ w _ hP hk
  rw [cstL_one _ _ (by rw [hk.len]; exact Nat.le_refl _)] at a
  have b : ∃ xs, PlanOk lo hi cap l w xs ∧ cstL (List.replicate l.length 1) xs = lfL lo hi cap l (List.replicate l.length 1) w := by
    have : ∀ (l ps : List Int) (w : Int), Pr0 ps → 0 ≤ lfL lo hi cap l ps w → ∃ xs, PlanOk lo hi cap l w xs ∧ cstL ps xs = lfL lo hi cap l ps w := by
      intro l
      induction l with
      | nil => intro ps w _ _; exact ⟨[], trivial, rfl⟩
      | cons i r ih =>
        intro ps w hp h
        obtain ⟨x, q1, q2, q3⟩ := lfx_ex (hp 0).1 _ h
        obtain ⟨q4, q5⟩ := okx_iff.1 q2
        obtain ⟨xs, q6, q7⟩ := ih ps.tail _ hp.tail q5
        refine ⟨(x : Int) :: xs, ⟨by omega, q4, q6⟩, ?_⟩
        simp only [cstL]
        rw [q7]
        exact q3
    exact this l _ w hP a.1
  obtain ⟨xs, b1, b2⟩ := b
  rw [cstL_one _ _ (by rw [b1.len]; exact Nat.le_refl _)] at b2
  have c := latL_least l w w xs (Int.le_refl _) h2 b1
  omega
/-- costs, hour by hour -/
def coF (ps xs : List Int) : Nat → Int
  | 0 => 0
  | k + 1 => coF ps xs k + gi xs k * gi ps k
theorem coF_cons (ps xs : List Int) (x : Int) (k : Nat) : coF ps (x :: xs) (k + 1) = x * gi ps 0 + coF ps.tail xs k := by
  induction k with
  | zero => simp [coF, gi]
  | succ k ih =>
    rw [coF, ih, coF, gi_tail]
    simp [gi]
    omega
theorem coF_all : ∀ (xs ps : List Int), coF ps xs xs.length = cstL ps xs
  | [], _ => rfl
  | x :: xs, ps => by rw [List.length_cons, coF_cons, coF_all xs ps.tail]; rfl
theorem coF_bd {ps xs : List Int} (hp : Pr0 ps) (hx : ∀ k, k < xs.length → 0 ≤ gi xs k ∧ gi xs k ≤ 40) : ∀ k, k ≤ xs.length → 0 ≤ coF ps xs k ∧ coF ps xs k ≤ 40000 * k := by
  intro k
  induction k with
  | zero => intro _; simp [coF]
  | succ k ih =>
    intro h
    have h1 := ih (by omega)
    have h2 := hx k (by omega)
    have h3 := hp k
    have h4 : 0 ≤ gi xs k * gi ps k := Int.mul_nonneg h2.1 h3.1
    have h5 : gi xs k * gi ps k ≤ 40 * 1000 := Int.mul_le_mul h2.2 h3.2 h3.1 (by omega)
    simp only [coF]
    omega
end Go.Proofs.YtcmkkejcnomcdaaDoor

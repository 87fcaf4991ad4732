/- pumping plans: least prices, plans, overloads (plain) -/
import Derived.Test.YtcmkkejcnomcdaaDoorAgT
import Derived.Test.YtcmkkejcnomcdaaDoorAgZ
set_option linter.unusedVariables false
set_option linter.unusedSimpArgs false
namespace Go.Proofs.YtcmkkejcnomcdaaDoor
open Go.AG

/-! least prices -/
/-- an amount that can be pumped -/
def okx (lo hi : Int) (f : Int → Int) (i w : Int) (x : Nat) : Bool := (decide (lo ≤ w + i - x) && decide (w + i - x ≤ hi)) && decide (0 ≤ f (w + i - x))
theorem okx_iff {lo hi : Int} {f : Int → Int} {i w : Int} {x : Nat} : okx lo hi f i w x = true ↔ (lo ≤ w + i - x ∧ w + i - x ≤ hi) ∧ 0 ≤ f (w + i - x) := by
  simp [okx, Bool.and_eq_true, decide_eq_true_eq]
/-- the least price of the first amounts -/
def lfx (lo hi : Int) (f : Int → Int) (i pr w : Int) : Nat → Int
  | 0 => -1
  | k + 1 => if okx lo hi f i w k = true then if lfx lo hi f i pr w k < 0 ∨ k * pr + f (w + i - k) < lfx lo hi f i pr w k then k * pr + f (w + i - k) else lfx lo hi f i pr w k else lfx lo hi f i pr w k
theorem lfx_bd {lo hi : Int} {f : Int → Int} {i pr w : Int} {b : Int} (hp : 0 ≤ pr ∧ pr ≤ 1000) (hf : ∀ y, -1 ≤ f y ∧ f y ≤ b) (hb : 0 ≤ b) : ∀ k, k ≤ 41 → -1 ≤ lfx lo hi f i pr w k ∧ lfx lo hi f i pr w k ≤ b + 40000 := by
  intro k
  induction k with
  | zero => intro _; simp only [lfx]; omega
  | succ k ih =>
    intro hk
    have h1 := ih (by omega)
    have h2 := hf (w + i - k)
    have h3 : 0 ≤ (k : Int) * pr := Int.mul_nonneg (by omega) hp.1
    have h4 : (k : Int) * pr ≤ 40 * 1000 := Int.mul_le_mul (by omega) hp.2 hp.1 (by omega)
    simp only [lfx]
    split
    · split <;> omega
    · exact h1
theorem lfx_ex {lo hi : Int} {f : Int → Int} {i pr w : Int} (hp : 0 ≤ pr) : ∀ k, 0 ≤ lfx lo hi f i pr w k → ∃ x : Nat, x < k ∧ okx lo hi f i w x = true ∧ x * pr + f (w + i - x) = lfx lo hi f i pr w k := by
  intro k
  induction k with
  | zero => intro h; simp [lfx] at h
  | succ k ih =>
    intro h
    simp only [lfx] at h ⊢
    split at h
    · rename_i h1
      rw [if_pos h1]
      split at h
      · rename_i h2
        rw [if_pos h2]
        exact ⟨k, by omega, h1, rfl⟩
      · rename_i h2
        rw [if_neg h2]
        obtain ⟨x, a, b, c⟩ := ih h
        exact ⟨x, by omega, b, c⟩
    · rename_i h1
      rw [if_neg h1]
      obtain ⟨x, a, b, c⟩ := ih h
      exact ⟨x, by omega, b, c⟩
theorem lfx_le {lo hi : Int} {f : Int → Int} {i pr w : Int} (hp : 0 ≤ pr) : ∀ k (x : Nat), x < k → okx lo hi f i w x = true → 0 ≤ lfx lo hi f i pr w k ∧ lfx lo hi f i pr w k ≤ x * pr + f (w + i - x) := by
  intro k
  induction k with
  | zero => intro x h; omega
  | succ k ih =>
    intro x h hx
    have hk : okx lo hi f i w k = true → 0 ≤ (k : Int) * pr + f (w + i - k) := fun h => by
      have := (okx_iff.1 h).2
      have h3 : 0 ≤ (k : Int) * pr := Int.mul_nonneg (by omega) hp
      omega
    simp only [lfx]
    by_cases e : x = k
    · subst e
      rw [if_pos hx]
      have := hk hx
      split <;> omega
    · have h1 := ih x (by omega) hx
      split
      · rename_i h2
        have := hk h2
        split <;> omega
      · exact h1
/-- the least price from an hour on, by the inflows and prices that are left -/
def lfL (lo hi cap : Int) : List Int → List Int → Int → Int
  | [], _, _ => 0
  | i :: r, ps, w => lfx lo hi (lfL lo hi cap r ps.tail) i (gi ps 0) w (cap + 1).toNat
def Pr0 (ps : List Int) : Prop := ∀ i, 0 ≤ gi ps i ∧ gi ps i ≤ 1000
theorem gi_tail (ps : List Int) (i : Nat) : gi ps.tail i = gi ps (i + 1) := by cases ps <;> simp [gi]
theorem Pr0.tail {ps : List Int} (h : Pr0 ps) : Pr0 ps.tail := fun i => by rw [gi_tail]; exact h (i + 1)
theorem lfL_bd {lo hi cap : Int} (hc : 0 ≤ cap ∧ cap ≤ 40) : ∀ (l ps : List Int), Pr0 ps → ∀ w, -1 ≤ lfL lo hi cap l ps w ∧ lfL lo hi cap l ps w ≤ 40000 * l.length := by
  intro l
  induction l with
  | nil => intro ps _ w; simp [lfL]
  | cons i r ih =>
    intro ps hp w
    have := lfx_bd (lo := lo) (hi := hi) (f := lfL lo hi cap r ps.tail) (i := i) (w := w) (hp 0) (fun y => ih ps.tail hp.tail y) (by omega) (cap + 1).toNat (by omega)
    simp only [lfL, List.length_cons]
    omega
/-! plans -/
def PlanOk (lo hi cap : Int) : List Int → Int → List Int → Prop
  | [], _, [] => True
  | i :: r, w, x :: xs => (0 ≤ x ∧ x ≤ cap) ∧ (lo ≤ w + i - x ∧ w + i - x ≤ hi) ∧ PlanOk lo hi cap r (w + i - x) xs
  | _, _, _ => False
/-- what a plan costs -/
def cstL : List Int → List Int → Int
  | _, [] => 0
  | ps, x :: xs => x * gi ps 0 + cstL ps.tail xs
theorem PlanOk.len {lo hi cap : Int} : ∀ {l : List Int} {w : Int} {xs : List Int}, PlanOk lo hi cap l w xs → xs.length = l.length
  | [], _, [], _ => rfl
  | [], _, _ :: _, h => h.elim
  | _ :: _, _, [], h => h.elim
  | i :: r, w, x :: xs, h => by simp [PlanOk.len h.2.2]
theorem lfL_le {lo hi cap : Int} : ∀ (l ps : List Int) (w : Int) (xs : List Int), Pr0 ps → PlanOk lo hi cap l w xs → 0 ≤ lfL lo hi cap l ps w ∧ lfL lo hi cap l ps w ≤ cstL ps xs
  | [], ps, w, [], _, _ => by simp [lfL, cstL]
  | [], _, _, _ :: _, _, h => h.elim
  | _ :: _, _, _, [], _, h => h.elim
  | i :: r, ps, w, x :: xs, hp, h => by
    obtain ⟨h1, h2, h3⟩ := h
    have ih := lfL_le r ps.tail (w + i - x) xs hp.tail h3
    obtain ⟨y, rfl⟩ : ∃ y : Nat, x = (y : Int) := ⟨x.toNat, by omega⟩
    have := lfx_le (lo := lo) (hi := hi) (f := lfL lo hi cap r ps.tail) (i := i) (w := w) (hp 0).1 (cap + 1).toNat y (by omega) (okx_iff.2 ⟨h2, ih.1⟩)
    simp only [lfL, cstL]
    omega
/-- the plan that takes the first amount each hour with which the least price is reached -/
def FstP (lo hi cap : Int) : List Int → List Int → Int → List Int → Prop
  | [], _, _, [] => True
  | i :: r, ps, w, x :: xs => (0 ≤ x ∧ x ≤ cap) ∧ (okx lo hi (lfL lo hi cap r ps.tail) i w x.toNat = true ∧ x * gi ps 0 + lfL lo hi cap r ps.tail (w + i - x) = lfL lo hi cap (i :: r) ps w) ∧
      (∀ y : Nat, (y : Int) < x → ¬ (okx lo hi (lfL lo hi cap r ps.tail) i w y = true ∧ y * gi ps 0 + lfL lo hi cap r ps.tail (w + i - y) = lfL lo hi cap (i :: r) ps w)) ∧ FstP lo hi cap r ps.tail (w + i - x) xs
  | _, _, _, _ => False
theorem FstP.uniq {lo hi cap : Int} : ∀ {l ps : List Int} {w : Int} {xs ys : List Int}, FstP lo hi cap l ps w xs → FstP lo hi cap l ps w ys → xs = ys
  | [], _, _, [], [], _, _ => rfl
  | [], _, _, [], _ :: _, _, h => h.elim
  | [], _, _, _ :: _, _, h, _ => h.elim
  | _ :: _, _, _, [], _, h, _ => h.elim
  | _ :: _, _, _, _ :: _, [], _, h => h.elim
  | i :: r, ps, w, x :: xs, y :: ys, h, h' => by
    obtain ⟨a1, a2, a3, a4⟩ := h
    obtain ⟨b1, b2, b3, b4⟩ := h'
    have e : x = y := by
      by_cases h1 : x < y
      · have := b3 x.toNat (by omega)
        rw [show ((x.toNat : Nat) : Int) = x by omega] at this
        exact absurd a2 this
      · by_cases h2 : y < x
        · have := a3 y.toNat (by omega)
          rw [show ((y.toNat : Nat) : Int) = y by omega] at this
          exact absurd b2 this
        · omega
    subst e
    rw [a4.uniq b4]
theorem FstP.ok {lo hi cap : Int} : ∀ {l ps : List Int} {w : Int} {xs : List Int}, FstP lo hi cap l ps w xs → PlanOk lo hi cap l w xs ∧ cstL ps xs = lfL lo hi cap l ps w
  | [], _, _, [], _ => ⟨trivial, rfl⟩
  | [], _, _, _ :: _, h => h.elim
  | _ :: _, _, _, [], h => h.elim
  | i :: r, ps, w, x :: xs, h => by
    obtain ⟨a1, ⟨a2, a3⟩, _, a4⟩ := h
    have ih := a4.ok
    have a2 := okx_iff.1 a2
    rw [show ((x.toNat : Nat) : Int) = x by omega] at a2
    refine ⟨⟨a1, a2.1, ih.1⟩, ?_⟩
    simp only [cstL]
    rw [ih.2]
    exact a3
/-! which water can be kept -/
def tpL (hi cap : Int) : List Int → Int
  | [] => hi
  | i :: r => if hi < tpL hi cap r + cap - i then hi else tpL hi cap r + cap - i
def GoodT (lo hi cap : Int) : List Int → Prop
  | [] => True
  | _ :: r => lo ≤ tpL hi cap r ∧ GoodT lo hi cap r
theorem tpL_hi (hi cap : Int) (l : List Int) : tpL hi cap l ≤ hi := by
  cases l with
  | nil => exact Int.le_refl _
  | cons i r => simp only [tpL]; split <;> omega
theorem PlanOk.top {lo hi cap : Int} : ∀ {l : List Int} {w : Int} {xs : List Int}, PlanOk lo hi cap l w xs → w ≤ hi → w ≤ tpL hi cap l ∧ GoodT lo hi cap l
  | [], w, [], _, h => ⟨h, trivial⟩
  | [], _, _ :: _, h, _ => h.elim
  | _ :: _, _, [], h, _ => h.elim
  | i :: r, w, x :: xs, h, hw => by
    obtain ⟨h1, h2, h3⟩ := h
    have ih := h3.top h2.2
    refine ⟨?_, by omega, ih.2⟩
    simp only [tpL]; split <;> omega
/-- the latest plan: each hour pumps as little as can be -/
def latL (hi cap : Int) : List Int → Int → List Int
  | [], _ => []
  | i :: r, w => (if w + i - tpL hi cap r < 0 then 0 else w + i - tpL hi cap r) :: latL hi cap r (w + i - (if w + i - tpL hi cap r < 0 then 0 else w + i - tpL hi cap r))
theorem latL_ok {lo hi cap : Int} (hc : 0 ≤ cap) : ∀ (l : List Int) (w : Int), (∀ i ∈ l, 0 ≤ i) → lo ≤ w → w ≤ tpL hi cap l → GoodT lo hi cap l → PlanOk lo hi cap l w (latL hi cap l w)
  | [], _, _, _, _, _ => trivial
  | i :: r, w, hi0, h1, h2, h3 => by
    have hi1 := hi0 i (by simp)
    have ht := tpL_hi hi cap r
    simp only [tpL] at h2
    have h2' : w + i - tpL hi cap r ≤ cap := by split at h2 <;> omega
    have h3' := h3.1
    refine ⟨by split <;> omega, by split <;> omega, ?_⟩
    exact latL_ok hc r _ (fun j hj => hi0 j (by simp [hj])) (by split <;> omega) (by split <;> omega) h3.2
theorem plan_iff {lo hi cap : Int} (hc : 0 ≤ cap) {l : List Int} {w : Int} (h0 : ∀ i ∈ l, 0 ≤ i) (h1 : lo ≤ w) (h2 : w ≤ hi) : (∃ xs, PlanOk lo hi cap l w xs) ↔ w ≤ tpL hi cap l ∧ GoodT lo hi cap l :=
  ⟨fun ⟨_, h⟩ => h.top h2, fun h => ⟨_, latL_ok hc l w h0 h1 h.1 h.2⟩⟩
theorem lf_iff {lo hi cap : Int} (hc : 0 ≤ cap) {l ps : List Int} {w : Int} (hp : Pr0 ps) : 0 ≤ lfL lo hi cap l ps w ↔ ∃ xs, PlanOk lo hi cap l w xs := by
  constructor
  · intro h
    induction l generalizing ps w with
    | nil => exact ⟨[], trivial⟩
    | cons i r ih =>
      obtain ⟨x, h1, h2, h3⟩ := lfx_ex (hp 0).1 _ h
      obtain ⟨h4, h5⟩ := okx_iff.1 h2
      obtain ⟨xs, h6⟩ := ih hp.tail h5
      exact ⟨(x : Int) :: xs, by omega, h4, h6⟩
  · rintro ⟨xs, h⟩
    exact (lfL_le l ps w xs hp h).1
/-! overloads -/
/-- what flows in more than can be pumped, in the first hours -/
def ovS (cap : Int) (l : List Int) : Nat → Int
  | 0 => 0
  | k + 1 => ovS cap l k + (gi l k - cap)
theorem ovS_cons (cap i : Int) (r : List Int) (k : Nat) : ovS cap (i :: r) (k + 1) = (i - cap) + ovS cap r k := by
  induction k with
  | zero => simp [ovS, gi]
  | succ k ih =>
    rw [ovS, ih, show gi (i :: r) (k + 1) = gi r k by simp [gi]]
    simp only [ovS]
    omega
theorem tp_iff {hi cap : Int} : ∀ (l : List Int) (w : Int), w ≤ tpL hi cap l ↔ ∀ k, k ≤ l.length → w + ovS cap l k ≤ hi
  | [], w => by
    constructor
    · intro h k hk
      have : k = 0 := by simpa using hk
      subst this; simpa [ovS, tpL] using h
    · intro h; simpa [ovS, tpL] using h 0 (Nat.le_refl _)
  | i :: r, w => by
    have ih := tp_iff (hi := hi) (cap := cap) r (w + i - cap)
    constructor
    · intro h k hk
      have h1 : w ≤ hi ∧ w + i - cap ≤ tpL hi cap r := by simp only [tpL] at h; split at h <;> omega
      cases k with
      | zero => simp [ovS]; exact h1.1
      | succ k =>
        have := ih.1 h1.2 k (by simpa using hk)
        rw [ovS_cons]; omega
    · intro h
      have h1 := h 0 (Nat.zero_le _)
      have h2 := ih.2 (fun k hk => by have := h (k + 1) (by simpa using hk); rw [ovS_cons] at this; omega)
      simp only [ovS] at h1
      simp only [tpL]; split <;> omega
theorem good_iff {lo hi cap : Int} : ∀ l : List Int, GoodT lo hi cap l ↔ ∀ j, 1 ≤ j → j ≤ l.length → lo ≤ tpL hi cap (l.drop j)
  | [] => ⟨fun _ j h1 h2 => by simp at h2; omega, fun _ => trivial⟩
  | i :: r => by
    have ih := good_iff (lo := lo) (hi := hi) (cap := cap) r
    constructor
    · rintro ⟨h1, h2⟩ j hj1 hj2
      obtain ⟨j, rfl⟩ : ∃ q, j = q + 1 := ⟨j - 1, by omega⟩
      rw [List.drop_succ_cons]
      by_cases e : j = 0
      · subst e; exact h1
      · exact ih.1 h2 j (by omega) (by simpa using hj2)
    · intro h
      refine ⟨by simpa using h 1 (Nat.le_refl _) (by simp), ih.2 fun j h1 h2 => ?_⟩
      have := h (j + 1) (by omega) (by simpa using h2)
      rwa [List.drop_succ_cons] at this
/-- the water before an hour from which on an overload is looked for -/
def ovW (start lo : Int) (a : Nat) : Int := if a = 0 then start else lo
theorem ov_iff {start lo hi cap : Int} {l : List Int} (hlo : lo ≤ hi) (hst : start ≤ hi) : (start ≤ tpL hi cap l ∧ GoodT lo hi cap l) ↔ ∀ a k, a + k < l.length → ovW start lo a + ovS cap (l.drop a) (k + 1) ≤ hi := by
  rw [good_iff, tp_iff]
  constructor
  · rintro ⟨h1, h2⟩ a k hk
    by_cases e : a = 0
    · subst e; exact h1 (k + 1) (by omega)
    · unfold ovW; rw [if_neg e]
      exact (tp_iff _ _).1 (h2 a (by omega) (by omega)) (k + 1) (by rw [List.length_drop]; omega)
  · intro h
    refine ⟨fun k hk => ?_, fun j h1 h2 => (tp_iff _ _).2 fun k hk => ?_⟩
    · cases k with
      | zero => simp [ovS]; exact hst
      | succ k => exact h 0 k (by omega)
    · rw [List.length_drop] at hk
      cases k with
      | zero => simp [ovS]; exact hlo
      | succ k =>
        have := h j k (by omega)
        unfold ovW at this; rwa [if_neg (by omega)] at this
end Go.Proofs.YtcmkkejcnomcdaaDoor

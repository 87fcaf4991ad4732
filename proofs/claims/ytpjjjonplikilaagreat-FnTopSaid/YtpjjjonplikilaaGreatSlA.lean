/- parts of the proof of the law, sliced: what it needs of the texts Pum1, X2, X1, X3, Bas, Args, Pum2, Src, Src2, Pum9, T1, Wat1. Conditions: none. -/
import Derived.Test.YtpjjjonplikilaaGreatAgT
import Derived.Test.YtpjjjonplikilaaGreatAgZ
import Derived.Shelf.Strings.FuncGrows
set_option linter.unusedVariables false
set_option linter.unusedSimpArgs false
namespace Go.Proofs.YtpjjjonplikilaaGreat
open Go.AG

/-! least prices -/
/-- an amount that can be pumped -/
def okx (lo hi : Int) (f : Int → Int) (i w : Int) (x : Nat) : Bool := (decide (lo ≤ w + i - x) && decide (w + i - x ≤ hi)) && decide (0 ≤ f (w + i - x))
theorem okx_iff {lo hi : Int} {f : Int → Int} {i w : Int} {x : Nat} : okx lo hi f i w x = true ↔ (lo ≤ w + i - x ∧ w + i - x ≤ hi) ∧ 0 ≤ f (w + i - x) := by
  simp [okx, Bool.and_eq_true, decide_eq_true_eq]
/-- the least price of the first amounts -/
def lfx (lo hi : Int) (f : Int → Int) (i pr w : Int) : Nat → Int
  | 0 => -1
  | k + 1 => if okx lo hi f i w k = true then if lfx lo hi f i pr w k < 0 ∨ k * pr + f (w + i - k) < lfx lo hi f i pr w k then k * pr + f (w + i - k) else lfx lo hi f i pr w k else lfx lo hi f i pr w k
theorem lfx_bd {lo hi : Int} {f : Int → Int} {i pr w : Int} {b : Int} (hp : 0 ≤ pr ∧ pr ≤ 1000) (hf : ∀ y, -1 ≤ f y ∧ f y ≤ b) (hb : 0 ≤ b) : ∀ k, k ≤ 41 → -1 ≤ lfx lo hi f i pr w k ∧ lfx lo hi f i pr w k ≤ b + 40000 := by
  intro k
  induction k with
  | zero => intro _; simp only [lfx]; omega
  | succ k ih =>
    intro hk
    have h1 := ih (by omega)
    have h2 := hf (w + i - k)
    have h3 : 0 ≤ (k : Int) * pr := Int.mul_nonneg (by omega) hp.1
    have h4 : (k : Int) * pr ≤ 40 * 1000 := Int.mul_le_mul (by omega) hp.2 hp.1 (by omega)
    simp only [lfx]
    split
    · split <;> omega
    · exact h1
theorem lfx_ex {lo hi : Int} {f : Int → Int} {i pr w : Int} (hp : 0 ≤ pr) : ∀ k, 0 ≤ lfx lo hi f i pr w k → ∃ x : Nat, x < k ∧ okx lo hi f i w x = true ∧ x * pr + f (w + i - x) = lfx lo hi f i pr w k := by
  intro k
  induction k with
  | zero => intro h; simp [lfx] at h
  | succ k ih =>
    intro h
    simp only [lfx] at h ⊢
    split at h
    · rename_i h1
      rw [if_pos h1]
      split at h
      · rename_i h2
        rw [if_pos h2]
        exact ⟨k, by omega, h1, rfl⟩
      · rename_i h2
        rw [if_neg h2]
        obtain ⟨x, a, b, c⟩ := ih h
        exact ⟨x, by omega, b, c⟩
    · rename_i h1
      rw [if_neg h1]
      obtain ⟨x, a, b, c⟩ := ih h
      exact ⟨x, by omega, b, c⟩
theorem lfx_le {lo hi : Int} {f : Int → Int} {i pr w : Int} (hp : 0 ≤ pr) : ∀ k (x : Nat), x < k → okx lo hi f i w x = true → 0 ≤ lfx lo hi f i pr w k ∧ lfx lo hi f i pr w k ≤ x * pr + f (w + i - x) := by
  intro k
  induction k with
  | zero => intro x h; omega
  | succ k ih =>
    intro x h hx
    have hk : okx lo hi f i w k = true → 0 ≤ (k : Int) * pr + f (w + i - k) := fun h => by
      have := (okx_iff.1 h).2
      have h3 : 0 ≤ (k : Int) * pr := Int.mul_nonneg (by omega) hp
      omega
    simp only [lfx]
    by_cases e : x = k
    · subst e
      rw [if_pos hx]
      have := hk hx
      split <;> omega
    · have h1 := ih x (by omega) hx
      split
      · rename_i h2
        have := hk h2
        split <;> omega
      · exact h1
/-- the least price from an hour on, by the inflows and prices that are left -/
def lfL (lo hi cap : Int) : List Int → List Int → Int → Int
  | [], _, _ => 0
  | i :: r, ps, w => lfx lo hi (lfL lo hi cap r ps.tail) i (gi ps 0) w (cap + 1).toNat
def Pr0 (ps : List Int) : Prop := ∀ i, 0 ≤ gi ps i ∧ gi ps i ≤ 1000
theorem gi_tail (ps : List Int) (i : Nat) : gi ps.tail i = gi ps (i + 1) := by cases ps <;> simp [gi]
theorem Pr0.tail {ps : List Int} (h : Pr0 ps) : Pr0 ps.tail := fun i => by rw [gi_tail]; exact h (i + 1)
theorem lfL_bd {lo hi cap : Int} (hc : 0 ≤ cap ∧ cap ≤ 40) : ∀ (l ps : List Int), Pr0 ps → ∀ w, -1 ≤ lfL lo hi cap l ps w ∧ lfL lo hi cap l ps w ≤ 40000 * l.length := by
  intro l
  induction l with
  | nil => intro ps _ w; simp [lfL]
  | cons i r ih =>
    intro ps hp w
    have := lfx_bd (lo := lo) (hi := hi) (f := lfL lo hi cap r ps.tail) (i := i) (w := w) (hp 0) (fun y => ih ps.tail hp.tail y) (by omega) (cap + 1).toNat (by omega)
    simp only [lfL, List.length_cons]
    omega
/-! plans -/
def PlanOk (lo hi cap : Int) : List Int → Int → List Int → Prop
  | [], _, [] => True
  | i :: r, w, x :: xs => (0 ≤ x ∧ x ≤ cap) ∧ (lo ≤ w + i - x ∧ w + i - x ≤ hi) ∧ PlanOk lo hi cap r (w + i - x) xs
  | _, _, _ => False
/-- what a plan costs -/
def cstL : List Int → List Int → Int
  | _, [] => 0
  | ps, x :: xs => x * gi ps 0 + cstL ps.tail xs
theorem PlanOk.len {lo hi cap : Int} : ∀ {l : List Int} {w : Int} {xs : List Int}, PlanOk lo hi cap l w xs → xs.length = l.length
  | [], _, [], _ => rfl
  | [], _, _ :: _, h => h.elim
  | _ :: _, _, [], h => h.elim
  | i :: r, w, x :: xs, h => by simp [PlanOk.len h.2.2]
theorem lfL_le {lo hi cap : Int} : ∀ (l ps : List Int) (w : Int) (xs : List Int), Pr0 ps → PlanOk lo hi cap l w xs → 0 ≤ lfL lo hi cap l ps w ∧ lfL lo hi cap l ps w ≤ cstL ps xs
  | [], ps, w, [], _, _ => by simp [lfL, cstL]
  | [], _, _, _ :: _, _, h => h.elim
  | _ :: _, _, _, [], _, h => h.elim
  | i :: r, ps, w, x :: xs, hp, h => by
    obtain ⟨h1, h2, h3⟩ := h
    have ih := lfL_le r ps.tail (w + i - x) xs hp.tail h3
    obtain ⟨y, rfl⟩ : ∃ y : Nat, x = (y : Int) := ⟨x.toNat, by omega⟩
    have := lfx_le (lo := lo) (hi := hi) (f := lfL lo hi cap r ps.tail) (i := i) (w := w) (hp 0).1 (cap + 1).toNat y (by omega) (okx_iff.2 ⟨h2, ih.1⟩)
    simp only [lfL, cstL]
    omega
/-- the plan that takes the first amount each hour with which the least price is reached -/
def FstP (lo hi cap : Int) : List Int → List Int → Int → List Int → Prop
  | [], _, _, [] => True
  | i :: r, ps, w, x :: xs => (0 ≤ x ∧ x ≤ cap) ∧ (okx lo hi (lfL lo hi cap r ps.tail) i w x.toNat = true ∧ x * gi ps 0 + lfL lo hi cap r ps.tail (w + i - x) = lfL lo hi cap (i :: r) ps w) ∧
      (∀ y : Nat, (y : Int) < x → ¬ (okx lo hi (lfL lo hi cap r ps.tail) i w y = true ∧ y * gi ps 0 + lfL lo hi cap r ps.tail (w + i - y) = lfL lo hi cap (i :: r) ps w)) ∧ FstP lo hi cap r ps.tail (w + i - x) xs
  | _, _, _, _ => False
theorem FstP.ok {lo hi cap : Int} : ∀ {l ps : List Int} {w : Int} {xs : List Int}, FstP lo hi cap l ps w xs → PlanOk lo hi cap l w xs ∧ cstL ps xs = lfL lo hi cap l ps w
  | [], _, _, [], _ => ⟨trivial, rfl⟩
  | [], _, _, _ :: _, h => h.elim
  | _ :: _, _, _, [], h => h.elim
  | i :: r, ps, w, x :: xs, h => by
    obtain ⟨a1, ⟨a2, a3⟩, _, a4⟩ := h
    have ih := a4.ok
    have a2 := okx_iff.1 a2
    rw [show ((x.toNat : Nat) : Int) = x by omega] at a2
    refine ⟨⟨a1, a2.1, ih.1⟩, ?_⟩
    simp only [cstL]
    rw [ih.2]
    exact a3
/-! which water can be kept -/
def tpL (hi cap : Int) : List Int → Int
  | [] => hi
  | i :: r => if hi < tpL hi cap r + cap - i then hi else tpL hi cap r + cap - i
def GoodT (lo hi cap : Int) : List Int → Prop
  | [] => True
  | _ :: r => lo ≤ tpL hi cap r ∧ GoodT lo hi cap r
theorem tpL_hi (hi cap : Int) (l : List Int) : tpL hi cap l ≤ hi := by
  cases l with
  | nil => exact Int.le_refl _
  | cons i r => simp only [tpL]; split <;> omega
theorem PlanOk.top {lo hi cap : Int} : ∀ {l : List Int} {w : Int} {xs : List Int}, PlanOk lo hi cap l w xs → w ≤ hi → w ≤ tpL hi cap l ∧ GoodT lo hi cap l
  | [], w, [], _, h => ⟨h, trivial⟩
  | [], _, _ :: _, h, _ => h.elim
  | _ :: _, _, [], h, _ => h.elim
  | i :: r, w, x :: xs, h, hw => by
    obtain ⟨h1, h2, h3⟩ := h
    have ih := h3.top h2.2
    refine ⟨?_, by omega, ih.2⟩
    simp only [tpL]; split <;> omega
/-- the latest plan: each hour pumps as little as can be -/
def latL (hi cap : Int) : List Int → Int → List Int
  | [], _ => []
  | i :: r, w => (if w + i - tpL hi cap r < 0 then 0 else w + i - tpL hi cap r) :: latL hi cap r (w + i - (if w + i - tpL hi cap r < 0 then 0 else w + i - tpL hi cap r))
theorem latL_ok {lo hi cap : Int} (hc : 0 ≤ cap) : ∀ (l : List Int) (w : Int), (∀ i ∈ l, 0 ≤ i) → lo ≤ w → w ≤ tpL hi cap l → GoodT lo hi cap l → PlanOk lo hi cap l w (latL hi cap l w)
  | [], _, _, _, _, _ => trivial
  | i :: r, w, hi0, h1, h2, h3 => by
    have hi1 := hi0 i (by simp)
    have ht := tpL_hi hi cap r
    simp only [tpL] at h2
    have h2' : w + i - tpL hi cap r ≤ cap := by split at h2 <;> omega
    have h3' := h3.1
    refine ⟨by split <;> omega, by split <;> omega, ?_⟩
    exact latL_ok hc r _ (fun j hj => hi0 j (by simp [hj])) (by split <;> omega) (by split <;> omega) h3.2
theorem plan_iff {lo hi cap : Int} (hc : 0 ≤ cap) {l : List Int} {w : Int} (h0 : ∀ i ∈ l, 0 ≤ i) (h1 : lo ≤ w) (h2 : w ≤ hi) : (∃ xs, PlanOk lo hi cap l w xs) ↔ w ≤ tpL hi cap l ∧ GoodT lo hi cap l :=
  ⟨fun ⟨_, h⟩ => h.top h2, fun h => ⟨_, latL_ok hc l w h0 h1 h.1 h.2⟩⟩
theorem lf_iff {lo hi cap : Int} (hc : 0 ≤ cap) {l ps : List Int} {w : Int} (hp : Pr0 ps) : 0 ≤ lfL lo hi cap l ps w ↔ ∃ xs, PlanOk lo hi cap l w xs := by
  constructor
  · intro h
    induction l generalizing ps w with
    | nil => exact ⟨[], trivial⟩
    | cons i r ih =>
      obtain ⟨x, h1, h2, h3⟩ := lfx_ex (hp 0).1 _ h
      obtain ⟨h4, h5⟩ := okx_iff.1 h2
      obtain ⟨xs, h6⟩ := ih hp.tail h5
      exact ⟨(x : Int) :: xs, by omega, h4, h6⟩
  · rintro ⟨xs, h⟩
    exact (lfL_le l ps w xs hp h).1
/-! overloads -/
/-- what flows in more than can be pumped, in the first hours -/
def ovS (cap : Int) (l : List Int) : Nat → Int
  | 0 => 0
  | k + 1 => ovS cap l k + (gi l k - cap)
theorem ovS_cons (cap i : Int) (r : List Int) (k : Nat) : ovS cap (i :: r) (k + 1) = (i - cap) + ovS cap r k := by
  induction k with
  | zero => simp [ovS, gi]
  | succ k ih =>
    rw [ovS, ih, show gi (i :: r) (k + 1) = gi r k by simp [gi]]
    simp only [ovS]
    omega
theorem tp_iff {hi cap : Int} : ∀ (l : List Int) (w : Int), w ≤ tpL hi cap l ↔ ∀ k, k ≤ l.length → w + ovS cap l k ≤ hi
  | [], w => by
    constructor
    · intro h k hk
      have : k = 0 := by simpa using hk
      subst this; simpa [ovS, tpL] using h
    · intro h; simpa [ovS, tpL] using h 0 (Nat.le_refl _)
  | i :: r, w => by
    have ih := tp_iff (hi := hi) (cap := cap) r (w + i - cap)
    constructor
    · intro h k hk
      have h1 : w ≤ hi ∧ w + i - cap ≤ tpL hi cap r := by simp only [tpL] at h; split at h <;> omega
      cases k with
      | zero => simp [ovS]; exact h1.1
      | succ k =>
        have := ih.1 h1.2 k (by simpa using hk)
        rw [ovS_cons]; omega
    · intro h
      have h1 := h 0 (Nat.zero_le _)
      have h2 := ih.2 (fun k hk => by have := h (k + 1) (by simpa using hk); rw [ovS_cons] at this; omega)
      simp only [ovS] at h1
      simp only [tpL]; split <;> omega
theorem good_iff {lo hi cap : Int} : ∀ l : List Int, GoodT lo hi cap l ↔ ∀ j, 1 ≤ j → j ≤ l.length → lo ≤ tpL hi cap (l.drop j)
  | [] => ⟨fun _ j h1 h2 => by simp at h2; omega, fun _ => trivial⟩
  | i :: r => by
    have ih := good_iff (lo := lo) (hi := hi) (cap := cap) r
    constructor
    · rintro ⟨h1, h2⟩ j hj1 hj2
      obtain ⟨j, rfl⟩ : ∃ q, j = q + 1 := ⟨j - 1, by omega⟩
      rw [List.drop_succ_cons]
      by_cases e : j = 0
      · subst e; exact h1
      · exact ih.1 h2 j (by omega) (by simpa using hj2)
    · intro h
      refine ⟨by simpa using h 1 (Nat.le_refl _) (by simp), ih.2 fun j h1 h2 => ?_⟩
      have := h (j + 1) (by omega) (by simpa using h2)
      rwa [List.drop_succ_cons] at this
/-- the water before an hour from which on an overload is looked for -/
def ovW (start lo : Int) (a : Nat) : Int := if a = 0 then start else lo
theorem ov_iff {start lo hi cap : Int} {l : List Int} (hlo : lo ≤ hi) (hst : start ≤ hi) : (start ≤ tpL hi cap l ∧ GoodT lo hi cap l) ↔ ∀ a k, a + k < l.length → ovW start lo a + ovS cap (l.drop a) (k + 1) ≤ hi := by
  rw [good_iff, tp_iff]
  constructor
  · rintro ⟨h1, h2⟩ a k hk
    by_cases e : a = 0
    · subst e; exact h1 (k + 1) (by omega)
    · unfold ovW; rw [if_neg e]
      exact (tp_iff _ _).1 (h2 a (by omega) (by omega)) (k + 1) (by rw [List.length_drop]; omega)
  · intro h
    refine ⟨fun k hk => ?_, fun j h1 h2 => (tp_iff _ _).2 fun k hk => ?_⟩
    · cases k with
      | zero => simp [ovS]; exact hst
      | succ k => exact h 0 k (by omega)
    · rw [List.length_drop] at hk
      cases k with
      | zero => simp [ovS]; exact hlo
      | succ k =>
        have := h j k (by omega)
        unfold ovW at this; rwa [if_neg (by omega)] at this
end Go.Proofs.YtpjjjonplikilaaGreat
namespace Go.Proofs.YtpjjjonplikilaaGreat
open Go.AG

theorem all_ok (f : FuncId) (caps : List V) (q : Int → Bool) (xs : List Int) (hf : ∀ x ∈ xs, ACalls Tryz.prog f (I x :: caps) [] (fun r o => r = B (q x) ∧ o = [])) (hc : V.norefL caps = true) (hl : xs.length ≤ 10000000) :
    ACalls Tryz.prog 27 [iS xs, .fn f caps] [] (fun r o => r = B (xs.all q) ∧ o = []) := by
  refine ACalls.of_vc Tryz.func27 rfl (by decide) 18 rfl [.tmp 4] rfl (by simp) ?_
  unfold iS
  (repeat (first | simp (maxSteps := 2000000) (disch := omega) only [go_sem, ↓reduceIte] | with_reducible refine vIf_t ?_ | with_reducible refine vIf_f ?_))
  refine vcLoop_inv (fun k : Nat => k ≤ xs.length ∧ (xs.take k).all q = true) (fun k => ⟨18, 0, [(9, I k), (8, I xs.length), (7, .sl xs.length (ints xs)), (1, .fn f caps)], []⟩) (fun k => xs.length - k) 0 (by simp) (by (repeat (first | simp (maxSteps := 2000000) (disch := omega) only [go_sem, ↓reduceIte, killL_noref _ _ hc] | with_reducible refine vIf_t ?_ | with_reducible refine vIf_f ?_)); all_goals (try simp)) ?_
  intro k ⟨hk, he⟩
  (repeat (first | simp (maxSteps := 2000000) (disch := omega) only [go_sem, ↓reduceIte] | with_reducible refine vIf_t ?_ | with_reducible refine vIf_f ?_))
  refine vIf_dec (fun h => ?_) (fun h => ?_)
  · (repeat (first | simp (maxSteps := 2000000) (disch := omega) only [go_sem, ↓reduceIte] | with_reducible refine vIf_t ?_ | with_reducible refine vIf_f ?_))
    refine vCallX_of ?_
    (repeat (first | simp (maxSteps := 2000000) (disch := omega) only [go_sem, ↓reduceIte] | with_reducible refine vIf_t ?_ | with_reducible refine vIf_f ?_))
    refine vCall_eq (hf (gi xs k) (gi_mem xs k (by omega))) (by (repeat (first | simp (maxSteps := 2000000) (disch := omega) only [go_sem, ↓reduceIte, frzL_noref _ _ hc] | with_reducible refine vIf_t ?_ | with_reducible refine vIf_f ?_))) (by (repeat (first | simp (maxSteps := 2000000) (disch := omega) only [go_sem, ↓reduceIte, hc] | with_reducible refine vIf_t ?_ | with_reducible refine vIf_f ?_))) (Or.inl (by (repeat (first | simp (maxSteps := 2000000) (disch := omega) only [go_sem, ↓reduceIte, hc] | with_reducible refine vIf_t ?_ | with_reducible refine vIf_f ?_)))) ?_
    (repeat (first | simp (maxSteps := 2000000) (disch := omega) only [go_sem, ↓reduceIte] | with_reducible refine vIf_t ?_ | with_reducible refine vIf_f ?_))
    refine vIf_not (fun h3 => ?_) (fun h3 => ?_)
    · (repeat (first | simp (maxSteps := 2000000) (disch := omega) only [go_sem, ↓reduceIte] | with_reducible refine vIf_t ?_ | with_reducible refine vIf_f ?_))
      (refine retK_of ?_; (repeat (first | simp (maxSteps := 2000000) (disch := omega) only [go_sem, ↓reduceIte] | with_reducible refine vIf_t ?_ | with_reducible refine vIf_f ?_)))
      rw [all_no q xs k (by omega) h3]
    · (repeat (first | simp (maxSteps := 2000000) (disch := omega) only [go_sem, ↓reduceIte] | with_reducible refine vIf_t ?_ | with_reducible refine vIf_f ?_))
      refine again (k + 1) ⟨by omega, all_snoc q xs k (by omega) he h3⟩ (by omega) ?_
      (repeat (first | simp (maxSteps := 2000000) (disch := omega) only [go_sem, ↓reduceIte, killL_noref _ _ hc] | with_reducible refine vIf_t ?_ | with_reducible refine vIf_f ?_))
  · (repeat (first | simp (maxSteps := 2000000) (disch := omega) only [go_sem, ↓reduceIte] | with_reducible refine vIf_t ?_ | with_reducible refine vIf_f ?_))
    (refine retK_of ?_; (repeat (first | simp (maxSteps := 2000000) (disch := omega) only [go_sem, ↓reduceIte] | with_reducible refine vIf_t ?_ | with_reducible refine vIf_f ?_)))
    rw [take_all _ _ (by omega)] at he
    simp [he]

theorem inS_ok (n lo hi : Int) : ACalls Tryz.prog 66 [I n, I lo, I hi] [] (fun r o => r = B (decide (lo ≤ n ∧ n ≤ hi)) ∧ o = []) := by
  refine ACalls.of_vc Tryz.func66 rfl (by decide) 15 rfl [.tmp 6] rfl (by simp) ?_
  (repeat (first | simp (maxSteps := 2000000) (disch := omega) only [go_sem, ↓reduceIte] | with_reducible refine vIf_t ?_ | with_reducible refine vIf_f ?_))
  repeat' (first | (with_reducible refine vGuard_any (fun h => ?_) (fun h => ?_) <;> (try simp only [ne_eq, Bool.not_eq_true, Bool.not_eq_false, decide_eq_true_eq, decide_eq_false_iff_not, Bool.not_eq_eq_eq_not, Bool.not_true, Bool.not_false, beq_iff_eq, bne_iff_ne, beq_eq_false_iff_ne, bne_eq_false_iff_eq, Bool.and_eq_true, Bool.and_eq_false_imp, Int.not_le, Int.not_lt, Nat.not_le, Nat.not_lt] at h) <;> ((repeat (first | simp (maxSteps := 2000000) (disch := omega) only [go_sem, ↓reduceIte, h] | with_reducible refine vIf_t ?_ | with_reducible refine vIf_f ?_)))) | (with_reducible refine vIf_bool (fun h => ?_) (fun h => ?_) <;> (try simp only [ne_eq, Bool.not_eq_true, Bool.not_eq_false, decide_eq_true_eq, decide_eq_false_iff_not, Bool.not_eq_eq_eq_not, Bool.not_true, Bool.not_false, beq_iff_eq, bne_iff_ne, beq_eq_false_iff_ne, bne_eq_false_iff_eq, Bool.and_eq_true, Bool.and_eq_false_imp, Int.not_le, Int.not_lt, Nat.not_le, Nat.not_lt] at h) <;> ((repeat (first | simp (maxSteps := 2000000) (disch := omega) only [go_sem, ↓reduceIte, h] | with_reducible refine vIf_t ?_ | with_reducible refine vIf_f ?_)))) | (with_reducible refine vqGuard_any (fun h => ?_) (fun h => ?_) <;> (try simp only [ne_eq, Bool.not_eq_true, Bool.not_eq_false, decide_eq_true_eq, decide_eq_false_iff_not, Bool.not_eq_eq_eq_not, Bool.not_true, Bool.not_false, beq_iff_eq, bne_iff_ne, beq_eq_false_iff_ne, bne_eq_false_iff_eq, Bool.and_eq_true, Bool.and_eq_false_imp, Int.not_le, Int.not_lt, Nat.not_le, Nat.not_lt] at h) <;> ((repeat (first | simp (maxSteps := 2000000) (disch := omega) only [go_sem, ↓reduceIte, h] | with_reducible refine vIf_t ?_ | with_reducible refine vIf_f ?_)))) | (with_reducible refine retK_of ?_; (repeat (first | simp (maxSteps := 2000000) (disch := omega) only [go_sem, ↓reduceIte] | with_reducible refine vIf_t ?_ | with_reducible refine vIf_f ?_))))
end Go.Proofs.YtpjjjonplikilaaGreat
namespace Go.Proofs.YtpjjjonplikilaaGreat
open Go.AG

theorem sum_ok (xs : List Int) (hl : xs.length ≤ 10000000) : ACalls Tryz.prog 93 [iS xs] [] (fun r o => r = I (wsum xs) ∧ o = []) := by
  refine ACalls.of_vc Tryz.func93 rfl (by decide) 17 rfl [.tmp 2] rfl (by simp) ?_
  unfold iS
  (repeat (first | simp (maxSteps := 2000000) (disch := omega) only [go_sem, ↓reduceIte] | with_reducible refine vIf_t ?_ | with_reducible refine vIf_f ?_))
  refine vcLoop_inv (fun k : Nat => k ≤ xs.length) (fun k => ⟨17, 0, [(8, I k), (7, I xs.length), (6, .sl xs.length (ints xs)), (3, I (wsum (xs.take k)))], []⟩) (fun k => xs.length - k) 0 (by omega) (by (repeat (first | simp (maxSteps := 2000000) (disch := omega) only [go_sem, ↓reduceIte] | with_reducible refine vIf_t ?_ | with_reducible refine vIf_f ?_)); simp [wsum_nil]) ?_
  intro k hk
  (repeat (first | simp (maxSteps := 2000000) (disch := omega) only [go_sem, ↓reduceIte] | with_reducible refine vIf_t ?_ | with_reducible refine vIf_f ?_))
  refine vIf_dec (fun h => ?_) (fun h => ?_)
  · (repeat (first | simp (maxSteps := 2000000) (disch := omega) only [go_sem, ↓reduceIte] | with_reducible refine vIf_t ?_ | with_reducible refine vIf_f ?_))
    refine again (k + 1) (by omega) (by omega) ?_
    (repeat (first | simp (maxSteps := 2000000) (disch := omega) only [go_sem, ↓reduceIte] | with_reducible refine vIf_t ?_ | with_reducible refine vIf_f ?_))
    rw [take_succ_gi _ _ (by omega), wsum_snoc]
    all_goals (try simp)
  · (repeat (first | simp (maxSteps := 2000000) (disch := omega) only [go_sem, ↓reduceIte] | with_reducible refine vIf_t ?_ | with_reducible refine vIf_f ?_))
    (refine retK_of ?_; (repeat (first | simp (maxSteps := 2000000) (disch := omega) only [go_sem, ↓reduceIte] | with_reducible refine vIf_t ?_ | with_reducible refine vIf_f ?_)))
    rw [take_all _ _ (by omega)]

end Go.Proofs.YtpjjjonplikilaaGreat
namespace Go.Proofs.YtpjjjonplikilaaGreat
open Go.AG

theorem in_ok (n lo hi : Int) : ACalls Tryz.prog 57 [I n, I lo, I hi] [] (fun r o => r = B (decide (lo ≤ n ∧ n ≤ hi)) ∧ o = []) := by
  refine ACalls.of_vc Tryz.func57 rfl (by decide) 15 rfl [.tmp 6] rfl (by simp) ?_
  (repeat (first | simp (maxSteps := 2000000) (disch := omega) only [go_sem, ↓reduceIte] | with_reducible refine vIf_t ?_ | with_reducible refine vIf_f ?_))
  repeat' (first | (with_reducible refine vGuard_any (fun h => ?_) (fun h => ?_) <;> (try simp only [ne_eq, Bool.not_eq_true, Bool.not_eq_false, decide_eq_true_eq, decide_eq_false_iff_not, Bool.not_eq_eq_eq_not, Bool.not_true, Bool.not_false, beq_iff_eq, bne_iff_ne, beq_eq_false_iff_ne, bne_eq_false_iff_eq, Bool.and_eq_true, Bool.and_eq_false_imp, Int.not_le, Int.not_lt, Nat.not_le, Nat.not_lt] at h) <;> ((repeat (first | simp (maxSteps := 2000000) (disch := omega) only [go_sem, ↓reduceIte, h] | with_reducible refine vIf_t ?_ | with_reducible refine vIf_f ?_)))) | (with_reducible refine vIf_bool (fun h => ?_) (fun h => ?_) <;> (try simp only [ne_eq, Bool.not_eq_true, Bool.not_eq_false, decide_eq_true_eq, decide_eq_false_iff_not, Bool.not_eq_eq_eq_not, Bool.not_true, Bool.not_false, beq_iff_eq, bne_iff_ne, beq_eq_false_iff_ne, bne_eq_false_iff_eq, Bool.and_eq_true, Bool.and_eq_false_imp, Int.not_le, Int.not_lt, Nat.not_le, Nat.not_lt] at h) <;> ((repeat (first | simp (maxSteps := 2000000) (disch := omega) only [go_sem, ↓reduceIte, h] | with_reducible refine vIf_t ?_ | with_reducible refine vIf_f ?_)))) | (with_reducible refine vqGuard_any (fun h => ?_) (fun h => ?_) <;> (try simp only [ne_eq, Bool.not_eq_true, Bool.not_eq_false, decide_eq_true_eq, decide_eq_false_iff_not, Bool.not_eq_eq_eq_not, Bool.not_true, Bool.not_false, beq_iff_eq, bne_iff_ne, beq_eq_false_iff_ne, bne_eq_false_iff_eq, Bool.and_eq_true, Bool.and_eq_false_imp, Int.not_le, Int.not_lt, Nat.not_le, Nat.not_lt] at h) <;> ((repeat (first | simp (maxSteps := 2000000) (disch := omega) only [go_sem, ↓reduceIte, h] | with_reducible refine vIf_t ?_ | with_reducible refine vIf_f ?_)))) | (with_reducible refine retK_of ?_; (repeat (first | simp (maxSteps := 2000000) (disch := omega) only [go_sem, ↓reduceIte] | with_reducible refine vIf_t ?_ | with_reducible refine vIf_f ?_))))
theorem size_ok (xs : List V) (n : Nat) : ACalls Tryz.prog 78 [.sl n xs] [] (fun r o => r = I n ∧ o = []) := by
  refine ACalls.of_vc Tryz.func78 rfl (by decide) 5 rfl [.tmp 2] rfl (by simp) ?_
  (repeat (first | simp (maxSteps := 2000000) (disch := omega) only [go_sem, ↓reduceIte] | with_reducible refine vIf_t ?_ | with_reducible refine vIf_f ?_))
  repeat' (first | (with_reducible refine vGuard_any (fun h => ?_) (fun h => ?_) <;> (try simp only [ne_eq, Bool.not_eq_true, Bool.not_eq_false, decide_eq_true_eq, decide_eq_false_iff_not, Bool.not_eq_eq_eq_not, Bool.not_true, Bool.not_false, beq_iff_eq, bne_iff_ne, beq_eq_false_iff_ne, bne_eq_false_iff_eq, Bool.and_eq_true, Bool.and_eq_false_imp, Int.not_le, Int.not_lt, Nat.not_le, Nat.not_lt] at h) <;> ((repeat (first | simp (maxSteps := 2000000) (disch := omega) only [go_sem, ↓reduceIte, h] | with_reducible refine vIf_t ?_ | with_reducible refine vIf_f ?_)))) | (with_reducible refine vIf_bool (fun h => ?_) (fun h => ?_) <;> (try simp only [ne_eq, Bool.not_eq_true, Bool.not_eq_false, decide_eq_true_eq, decide_eq_false_iff_not, Bool.not_eq_eq_eq_not, Bool.not_true, Bool.not_false, beq_iff_eq, bne_iff_ne, beq_eq_false_iff_ne, bne_eq_false_iff_eq, Bool.and_eq_true, Bool.and_eq_false_imp, Int.not_le, Int.not_lt, Nat.not_le, Nat.not_lt] at h) <;> ((repeat (first | simp (maxSteps := 2000000) (disch := omega) only [go_sem, ↓reduceIte, h] | with_reducible refine vIf_t ?_ | with_reducible refine vIf_f ?_)))) | (with_reducible refine vqGuard_any (fun h => ?_) (fun h => ?_) <;> (try simp only [ne_eq, Bool.not_eq_true, Bool.not_eq_false, decide_eq_true_eq, decide_eq_false_iff_not, Bool.not_eq_eq_eq_not, Bool.not_true, Bool.not_false, beq_iff_eq, bne_iff_ne, beq_eq_false_iff_ne, bne_eq_false_iff_eq, Bool.and_eq_true, Bool.and_eq_false_imp, Int.not_le, Int.not_lt, Nat.not_le, Nat.not_lt] at h) <;> ((repeat (first | simp (maxSteps := 2000000) (disch := omega) only [go_sem, ↓reduceIte, h] | with_reducible refine vIf_t ?_ | with_reducible refine vIf_f ?_)))) | (with_reducible refine retK_of ?_; (repeat (first | simp (maxSteps := 2000000) (disch := omega) only [go_sem, ↓reduceIte] | with_reducible refine vIf_t ?_ | with_reducible refine vIf_f ?_))))

end Go.Proofs.YtpjjjonplikilaaGreat
namespace Go.Proofs.YtpjjjonplikilaaGreat
open Go.AG

def lvB (n : Int) : Bool := decide (-2000 ≤ n ∧ n ≤ 2000)
theorem lvB_f {n : Int} (h : lvB n = true) : -2000 ≤ n ∧ n ≤ 2000 := of_decide_eq_true h
theorem bLev_ok (n : Int) : ACalls Tryz.prog 70 [I n] [] (fun r o => r = B (lvB n) ∧ o = []) := by
  refine ACalls.of_vc Tryz.func70 rfl (by decide) 5 rfl [.tmp 2] rfl (by simp) ?_
  (repeat (first | simp (maxSteps := 2000000) (disch := omega) only [go_sem, ↓reduceIte] | with_reducible refine vIf_t ?_ | with_reducible refine vIf_f ?_))
  (refine vCallX_of ?_; (repeat (first | simp (maxSteps := 2000000) (disch := omega) only [go_sem, ↓reduceIte] | with_reducible refine vIf_t ?_ | with_reducible refine vIf_f ?_)); refine vCall_eq (in_ok n (-2000) 2000) (by simp (disch := omega) only [go_sem]) rfl (by first | exact Or.inl rfl | exact Or.inr ⟨rfl, rfl⟩ | (apply Or.inr; simp only [go_sem])) ?_; (repeat (first | simp (maxSteps := 2000000) (disch := omega) only [go_sem, ↓reduceIte] | with_reducible refine vIf_t ?_ | with_reducible refine vIf_f ?_)))
  (refine retK_of ?_; (repeat (first | simp (maxSteps := 2000000) (disch := omega) only [go_sem, ↓reduceIte] | with_reducible refine vIf_t ?_ | with_reducible refine vIf_f ?_)))
  try rfl
theorem bLevS_ok (n : Int) : ACalls Tryz.prog 115 [I n] [] (fun r o => r = B (lvB n) ∧ o = []) := by
  refine ACalls.of_vc Tryz.func115 rfl (by decide) 5 rfl [.tmp 2] rfl (by simp) ?_
  (repeat (first | simp (maxSteps := 2000000) (disch := omega) only [go_sem, ↓reduceIte] | with_reducible refine vIf_t ?_ | with_reducible refine vIf_f ?_))
  (refine vCallX_of ?_; (repeat (first | simp (maxSteps := 2000000) (disch := omega) only [go_sem, ↓reduceIte] | with_reducible refine vIf_t ?_ | with_reducible refine vIf_f ?_)); refine vCall_eq (inS_ok n (-2000) 2000) (by simp (disch := omega) only [go_sem]) rfl (by first | exact Or.inl rfl | exact Or.inr ⟨rfl, rfl⟩ | (apply Or.inr; simp only [go_sem])) ?_; (repeat (first | simp (maxSteps := 2000000) (disch := omega) only [go_sem, ↓reduceIte] | with_reducible refine vIf_t ?_ | with_reducible refine vIf_f ?_)))
  (refine retK_of ?_; (repeat (first | simp (maxSteps := 2000000) (disch := omega) only [go_sem, ↓reduceIte] | with_reducible refine vIf_t ?_ | with_reducible refine vIf_f ?_)))
  try rfl
end Go.Proofs.YtpjjjonplikilaaGreat
namespace Go.AG
open Go.RowKit

/-- a deeper reading: nil slices within structs and tuples -/
inductive LeD : V → V → Prop where
  | le {x y : V} (h : V.le x y) : LeD x y
  | agg {xs ys : List V} (hn : xs.length = ys.length) (h : ∀ i (h : i < xs.length) (h' : i < ys.length), LeD xs[i] ys[i]) : LeD (.agg xs) (.agg ys)
  | tup {xs ys : List V} (hn : xs.length = ys.length) (h : ∀ i (h : i < xs.length) (h' : i < ys.length), LeD xs[i] ys[i]) : LeD (.tup xs) (.tup ys)
theorem RepC.leD {w : World} {Y : Nat → Prop} {ρ : Nat → Pl} {ob : Objs} {x y : V} (hl : LeD x y) : ∀ {v : Value}, RepC w Y ρ ob v x → RepC w Y ρ ob v y := by
  induction hl with
  | le h => intro v hr; exact hr.le h
  | agg hn _ ih =>
    intro v hr
    cases hr with
    | d h => cases h
    | agg hs hr => exact .agg (by rw [hs, hn]) fun i hi => ih i (by omega) hi (hr i (by omega))
  | tup hn _ ih =>
    intro v hr
    cases hr with
    | d h => cases h
    | tup hs hr => exact .tup (by rw [hs, hn]) fun i hi => ih i (by omega) hi (hr i (by omega))
def leDL : List V → List V → Prop
  | [], [] => True
  | x :: xs, y :: ys => LeD x y ∧ leDL xs ys
  | _, _ => False
theorem leDL_get : ∀ (xs ys : List V), leDL xs ys → xs.length = ys.length ∧ ∀ i (h : i < xs.length) (h' : i < ys.length), LeD xs[i] ys[i]
  | [], [], _ => ⟨rfl, fun i h => absurd h (by simp)⟩
  | x :: xs, y :: ys, h => by
    obtain ⟨h1, h2⟩ := leDL_get xs ys h.2
    refine ⟨by simp [h1], fun i hi hi' => ?_⟩
    cases i with
    | zero => exact h.1
    | succ i => exact h2 i (by simpa using hi) (by simpa using hi')
theorem LeD.tup' {xs ys : List V} (h : leDL xs ys) : LeD (.tup xs) (.tup ys) := .tup (leDL_get _ _ h).1 (leDL_get _ _ h).2
theorem leD_nil : leDL [] [] := trivial
theorem leD_same (x : V) {xs ys : List V} (h : leDL xs ys) : leDL (x :: xs) (x :: ys) := ⟨.le (V.le_refl x), h⟩
theorem leD_nilS {xs ys : List V} (h : leDL xs ys) : leDL (.sc (.slice none 0 0) :: xs) (.sl 0 [] :: ys) := ⟨.le (.inr (.inr ⟨rfl, rfl⟩)), h⟩
theorem ACalls.leD {P : Program} {f : FuncId} {args : List V} {ob : Objs} {Q Q' : V → Objs → Prop} (h : ACalls P f args ob Q) (hq : ∀ r o, Q r o → ∃ r', LeD r r' ∧ Q' r' o) : ACalls P f args ob Q' :=
  ⟨h.1, fun w X ρ vs h0 h1 h2 h3 => (h.2 w X ρ vs h0 h1 h2 h3).mono fun e w' ⟨v, r, o, ρ', he, hQ, hh, hr⟩ => by
    obtain ⟨r', hl, hQ'⟩ := hq r o hQ
    exact ⟨v, r', o, ρ', he, hQ', hh, RepC.leD hl hr⟩⟩
/-- an object is frozen ahead of a return -/
theorem retK_fz {P : Program} {rs : List ResultVar} {Q : V → Objs → Prop} {s : AState} (l : Nat) (o : Ob) (ho : Live s.ob l o) (hi : V.immL o.cells = true) (h : retK P rs Q { s with sl := trS (V.frz (oneF l o)) s.sl, ob := (trO (V.frz (oneF l o)) s.ob).set l none }) : retK P rs Q s := by
  obtain ⟨s1, h1, h2⟩ := h
  exact ⟨s1, .step l o ho hi h1, h2⟩
end Go.AG
namespace Go.Proofs.YtpjjjonplikilaaGreat
open Go.AG

attribute [local go_sem] beq_self_eq_true bne_self_eq_false Bool.not_true Bool.not_false
/-- a pumping: the water at the beginning, the limits, what can be pumped, the inflows and prices -/
structure Pm where
  st : Int
  lo : Int
  hi : Int
  cap : Int
  inf : List Int
  pr : List Int
def pmC (p : Pm) : List V := [I p.st, I p.lo, I p.hi, I p.cap, iS p.inf, iS p.pr]
def unB (n : Int) : Bool := decide (0 ≤ n ∧ n ≤ 40)
def prBm (n : Int) : Bool := decide (0 ≤ n ∧ n ≤ 1000)
structure PmF (p : Pm) : Prop where
  a : 0 ≤ p.lo
  b : p.lo ≤ p.st
  c : p.st ≤ p.hi
  d : p.hi ≤ 300
  e : 0 ≤ p.cap ∧ p.cap ≤ 40
  n : p.inf.length ≤ 48
  l : p.pr.length = p.inf.length
  i : p.inf.all unB = true
  q : p.pr.all prBm = true
instance (p : Pm) : Decidable (PmF p) := decidable_of_iff (0 ≤ p.lo ∧ p.lo ≤ p.st ∧ p.st ≤ p.hi ∧ p.hi ≤ 300 ∧ (0 ≤ p.cap ∧ p.cap ≤ 40) ∧ p.inf.length ≤ 48 ∧ p.pr.length = p.inf.length ∧ p.inf.all unB = true ∧ p.pr.all prBm = true)
  ⟨fun ⟨a, b, c, d, e, n, l, i, q⟩ => ⟨a, b, c, d, e, n, l, i, q⟩, fun ⟨a, b, c, d, e, n, l, i, q⟩ => ⟨a, b, c, d, e, n, l, i, q⟩⟩
def pmB (p : Pm) : Bool := decide (PmF p)
theorem pm_no {p : Pm} (h : ¬ PmF p) : pmB p = false := decide_eq_false h
theorem pm_yes {p : Pm} (h : PmF p) : pmB p = true := decide_eq_true h
theorem pmB_f {p : Pm} (h : pmB p = true) : PmF p := of_decide_eq_true h
theorem PmF.inf0 {p : Pm} (f : PmF p) : ∀ x ∈ p.inf, 0 ≤ x ∧ x ≤ 40 := fun x hx => by
  have := List.all_eq_true.1 f.i x hx; exact of_decide_eq_true this
theorem PmF.infg {p : Pm} (f : PmF p) (k : Nat) (hk : k < p.inf.length) : 0 ≤ gi p.inf k ∧ gi p.inf k ≤ 40 := f.inf0 _ (gi_mem _ k hk)
theorem PmF.pr0 {p : Pm} (f : PmF p) : Pr0 p.pr := fun i => by
  by_cases h : i < p.pr.length
  · have := List.all_eq_true.1 f.q _ (gi_mem _ i h); exact of_decide_eq_true this
  · have : gi p.pr i = 0 := by simp [gi, List.getElem?_eq_none (show p.pr.length ≤ i by omega)]
    omega
theorem units_ok (n : Int) : ACalls Tryz.prog 82 [I n] [] (fun r o => r = B (unB n) ∧ o = []) := by
  refine ACalls.of_vc Tryz.func82 rfl (by decide) 5 rfl [.tmp 2] rfl (by simp) ?_
  (repeat (first | simp (maxSteps := 2000000) (disch := omega) only [go_sem, ↓reduceIte] | with_reducible refine vIf_t ?_ | with_reducible refine vIf_f ?_))
  (refine vCallX_of ?_; (repeat (first | simp (maxSteps := 2000000) (disch := omega) only [go_sem, ↓reduceIte] | with_reducible refine vIf_t ?_ | with_reducible refine vIf_f ?_)); refine vCall_eq (in_ok n 0 40) (by simp (disch := omega) only [go_sem]) rfl (by first | exact Or.inl rfl | exact Or.inr ⟨rfl, rfl⟩ | (apply Or.inr; simp only [go_sem])) ?_; (repeat (first | simp (maxSteps := 2000000) (disch := omega) only [go_sem, ↓reduceIte] | with_reducible refine vIf_t ?_ | with_reducible refine vIf_f ?_)))
  (refine retK_of ?_; (repeat (first | simp (maxSteps := 2000000) (disch := omega) only [go_sem, ↓reduceIte] | with_reducible refine vIf_t ?_ | with_reducible refine vIf_f ?_)))
  try rfl
theorem price1_ok (n : Int) : ACalls Tryz.prog 83 [I n] [] (fun r o => r = B (prBm n) ∧ o = []) := by
  refine ACalls.of_vc Tryz.func83 rfl (by decide) 5 rfl [.tmp 2] rfl (by simp) ?_
  (repeat (first | simp (maxSteps := 2000000) (disch := omega) only [go_sem, ↓reduceIte] | with_reducible refine vIf_t ?_ | with_reducible refine vIf_f ?_))
  (refine vCallX_of ?_; (repeat (first | simp (maxSteps := 2000000) (disch := omega) only [go_sem, ↓reduceIte] | with_reducible refine vIf_t ?_ | with_reducible refine vIf_f ?_)); refine vCall_eq (in_ok n 0 1000) (by simp (disch := omega) only [go_sem]) rfl (by first | exact Or.inl rfl | exact Or.inr ⟨rfl, rfl⟩ | (apply Or.inr; simp only [go_sem])) ?_; (repeat (first | simp (maxSteps := 2000000) (disch := omega) only [go_sem, ↓reduceIte] | with_reducible refine vIf_t ?_ | with_reducible refine vIf_f ?_)))
  (refine retK_of ?_; (repeat (first | simp (maxSteps := 2000000) (disch := omega) only [go_sem, ↓reduceIte] | with_reducible refine vIf_t ?_ | with_reducible refine vIf_f ?_)))
  try rfl

set_option maxHeartbeats 4000000 in
theorem validPm_ok (p : Pm) (hn : p.inf.length ≤ 10000000) (hm : p.pr.length ≤ 10000000) : ACalls Tryz.prog 48 [.agg (pmC p)] [] (fun r o => r = B (pmB p) ∧ o = []) := by
  refine ACalls.of_vc Tryz.func48 rfl (by decide) 55 rfl [.tmp 2] rfl (by simp) ?_
  have hu := units_ok p.cap
  have ha := all_ok 82 [] unB p.inf (fun x _ => units_ok x) rfl hn
  have hb := all_ok 83 [] prBm p.pr (fun x _ => price1_ok x) rfl hm
  unfold pmC iS at *
  (repeat (first | simp (maxSteps := 2000000) (disch := omega) only [go_sem, ↓reduceIte] | with_reducible refine vIf_t ?_ | with_reducible refine vIf_f ?_))
  by_cases c1 : 0 ≤ p.lo
  rotate_left
  · have d1 : decide (0 ≤ p.lo) = false := decide_eq_false c1
    rw [pm_no fun h => c1 h.a]
    (repeat (first | simp (maxSteps := 2000000) (disch := omega) only [go_sem, ↓reduceIte, d1] | with_reducible refine vIf_t ?_ | with_reducible refine vIf_f ?_))
    (refine retK_of ?_; (repeat (first | simp (maxSteps := 2000000) (disch := omega) only [go_sem, ↓reduceIte] | with_reducible refine vIf_t ?_ | with_reducible refine vIf_f ?_)))
  have d1 : decide (0 ≤ p.lo) = true := decide_eq_true c1
  by_cases c2 : p.lo ≤ p.st
  rotate_left
  · have d2 : decide (p.lo ≤ p.st) = false := decide_eq_false c2
    rw [pm_no fun h => c2 h.b]
    (repeat (first | simp (maxSteps := 2000000) (disch := omega) only [go_sem, ↓reduceIte, d1, d2] | with_reducible refine vIf_t ?_ | with_reducible refine vIf_f ?_))
    (refine retK_of ?_; (repeat (first | simp (maxSteps := 2000000) (disch := omega) only [go_sem, ↓reduceIte] | with_reducible refine vIf_t ?_ | with_reducible refine vIf_f ?_)))
  have d2 : decide (p.lo ≤ p.st) = true := decide_eq_true c2
  by_cases c3 : p.st ≤ p.hi
  rotate_left
  · have d3 : decide (p.st ≤ p.hi) = false := decide_eq_false c3
    rw [pm_no fun h => c3 h.c]
    (repeat (first | simp (maxSteps := 2000000) (disch := omega) only [go_sem, ↓reduceIte, d1, d2, d3] | with_reducible refine vIf_t ?_ | with_reducible refine vIf_f ?_))
    (refine retK_of ?_; (repeat (first | simp (maxSteps := 2000000) (disch := omega) only [go_sem, ↓reduceIte] | with_reducible refine vIf_t ?_ | with_reducible refine vIf_f ?_)))
  have d3 : decide (p.st ≤ p.hi) = true := decide_eq_true c3
  by_cases c4 : p.hi ≤ 300
  rotate_left
  · have d4 : decide (p.hi ≤ 300) = false := decide_eq_false c4
    rw [pm_no fun h => c4 h.d]
    (repeat (first | simp (maxSteps := 2000000) (disch := omega) only [go_sem, ↓reduceIte, d1, d2, d3, d4] | with_reducible refine vIf_t ?_ | with_reducible refine vIf_f ?_))
    (refine retK_of ?_; (repeat (first | simp (maxSteps := 2000000) (disch := omega) only [go_sem, ↓reduceIte] | with_reducible refine vIf_t ?_ | with_reducible refine vIf_f ?_)))
  have d4 : decide (p.hi ≤ 300) = true := decide_eq_true c4
  (repeat (first | simp (maxSteps := 2000000) (disch := omega) only [go_sem, ↓reduceIte, d1, d2, d3, d4] | with_reducible refine vIf_t ?_ | with_reducible refine vIf_f ?_))
  (refine vCallX_of ?_; (repeat (first | simp (maxSteps := 2000000) (disch := omega) only [go_sem, ↓reduceIte] | with_reducible refine vIf_t ?_ | with_reducible refine vIf_f ?_)); refine vCall_eq (hu) (by simp (disch := omega) only [go_sem]) rfl (by first | exact Or.inl rfl | exact Or.inr ⟨rfl, rfl⟩ | (apply Or.inr; simp only [go_sem])) ?_; (repeat (first | simp (maxSteps := 2000000) (disch := omega) only [go_sem, ↓reduceIte] | with_reducible refine vIf_t ?_ | with_reducible refine vIf_f ?_)))
  by_cases c5 : unB p.cap = true
  rotate_left
  · have d5 : unB p.cap = false := by simpa using c5
    rw [pm_no fun h => c5 (decide_eq_true h.e)]
    (repeat (first | simp (maxSteps := 2000000) (disch := omega) only [go_sem, ↓reduceIte, d5] | with_reducible refine vIf_t ?_ | with_reducible refine vIf_f ?_))
    (refine retK_of ?_; (repeat (first | simp (maxSteps := 2000000) (disch := omega) only [go_sem, ↓reduceIte] | with_reducible refine vIf_t ?_ | with_reducible refine vIf_f ?_)))
  (repeat (first | simp (maxSteps := 2000000) (disch := omega) only [go_sem, ↓reduceIte, c5] | with_reducible refine vIf_t ?_ | with_reducible refine vIf_f ?_))
  by_cases c6 : p.inf.length ≤ 48
  rotate_left
  · have d6 : decide ((p.inf.length : Int) ≤ 48) = false := decide_eq_false (by omega)
    rw [pm_no fun h => c6 h.n]
    (repeat (first | simp (maxSteps := 2000000) (disch := omega) only [go_sem, ↓reduceIte, d6] | with_reducible refine vIf_t ?_ | with_reducible refine vIf_f ?_))
    (refine retK_of ?_; (repeat (first | simp (maxSteps := 2000000) (disch := omega) only [go_sem, ↓reduceIte] | with_reducible refine vIf_t ?_ | with_reducible refine vIf_f ?_)))
  have d6 : decide ((p.inf.length : Int) ≤ 48) = true := decide_eq_true (by omega)
  by_cases c7 : p.pr.length = p.inf.length
  rotate_left
  · have d7 : ((p.pr.length : Int) == (p.inf.length : Int)) = false := by simp; omega
    rw [pm_no fun h => c7 h.l]
    (repeat (first | simp (maxSteps := 2000000) (disch := omega) only [go_sem, ↓reduceIte, d6, d7] | with_reducible refine vIf_t ?_ | with_reducible refine vIf_f ?_))
    (refine retK_of ?_; (repeat (first | simp (maxSteps := 2000000) (disch := omega) only [go_sem, ↓reduceIte] | with_reducible refine vIf_t ?_ | with_reducible refine vIf_f ?_)))
  have d7 : ((p.pr.length : Int) == (p.inf.length : Int)) = true := by simp; omega
  (repeat (first | simp (maxSteps := 2000000) (disch := omega) only [go_sem, ↓reduceIte, d6, d7] | with_reducible refine vIf_t ?_ | with_reducible refine vIf_f ?_))
  (refine vCallX_of ?_; (repeat (first | simp (maxSteps := 2000000) (disch := omega) only [go_sem, ↓reduceIte] | with_reducible refine vIf_t ?_ | with_reducible refine vIf_f ?_)); refine vCall_eq (ha) (by simp (disch := omega) only [go_sem]) rfl (by first | exact Or.inl rfl | exact Or.inr ⟨rfl, rfl⟩ | (apply Or.inr; simp only [go_sem])) ?_; (repeat (first | simp (maxSteps := 2000000) (disch := omega) only [go_sem, ↓reduceIte] | with_reducible refine vIf_t ?_ | with_reducible refine vIf_f ?_)))
  cases c8 : p.inf.all unB with
  | false =>
    rw [pm_no fun h => by rw [h.i] at c8; cases c8]
    (repeat (first | simp (maxSteps := 2000000) (disch := omega) only [go_sem, ↓reduceIte, c8] | with_reducible refine vIf_t ?_ | with_reducible refine vIf_f ?_))
    (refine retK_of ?_; (repeat (first | simp (maxSteps := 2000000) (disch := omega) only [go_sem, ↓reduceIte] | with_reducible refine vIf_t ?_ | with_reducible refine vIf_f ?_)))
  | true =>
    (repeat (first | simp (maxSteps := 2000000) (disch := omega) only [go_sem, ↓reduceIte, c8] | with_reducible refine vIf_t ?_ | with_reducible refine vIf_f ?_))
    (refine vCallX_of ?_; (repeat (first | simp (maxSteps := 2000000) (disch := omega) only [go_sem, ↓reduceIte] | with_reducible refine vIf_t ?_ | with_reducible refine vIf_f ?_)); refine vCall_eq (hb) (by simp (disch := omega) only [go_sem]) rfl (by first | exact Or.inl rfl | exact Or.inr ⟨rfl, rfl⟩ | (apply Or.inr; simp only [go_sem])) ?_; (repeat (first | simp (maxSteps := 2000000) (disch := omega) only [go_sem, ↓reduceIte] | with_reducible refine vIf_t ?_ | with_reducible refine vIf_f ?_)))
    cases c9 : p.pr.all prBm with
    | false =>
      rw [pm_no fun h => by rw [h.q] at c9; cases c9]
      (repeat (first | simp (maxSteps := 2000000) (disch := omega) only [go_sem, ↓reduceIte, c9] | with_reducible refine vIf_t ?_ | with_reducible refine vIf_f ?_))
      (refine retK_of ?_; (repeat (first | simp (maxSteps := 2000000) (disch := omega) only [go_sem, ↓reduceIte] | with_reducible refine vIf_t ?_ | with_reducible refine vIf_f ?_)))
    | true =>
      rw [pm_yes ⟨c1, c2, c3, c4, of_decide_eq_true c5, c6, c7, c8, c9⟩]
      (repeat (first | simp (maxSteps := 2000000) (disch := omega) only [go_sem, ↓reduceIte, c9] | with_reducible refine vIf_t ?_ | with_reducible refine vIf_f ?_))
      (refine retK_of ?_; (repeat (first | simp (maxSteps := 2000000) (disch := omega) only [go_sem, ↓reduceIte] | with_reducible refine vIf_t ?_ | with_reducible refine vIf_f ?_)))

end Go.Proofs.YtpjjjonplikilaaGreat
namespace Go.Proofs.YtpjjjonplikilaaGreat
open Go.AG

/-- where a source stands -/
structure Sr where
  pos : Nat
  seed : Int
/-- a source, as an object -/
def srO (code : List Int) (σ : Sr) : Option Ob := some ⟨3, [.sl code.length (bts code), .sc (.int .i64 σ.pos), .sc (.int .u64 σ.seed)]⟩
def nxB (code : List Int) (σ : Sr) : Int := if σ.pos < code.length then gi code σ.pos else 0
def nxS (code : List Int) (σ : Sr) : Sr := ⟨σ.pos + 1, IntKind.wrap .u64 (IntKind.wrap .u64 (IntKind.wrap .u64 (σ.seed * 6364136223846793005) + nxB code σ) + 1442695040888963407)⟩
def nx (code : List Int) (σ : Sr) : Int := if σ.pos + 1 ≤ code.length then nxB code σ else Go.bits .and .u64 ((nxS code σ).seed.fdiv 1099511627776) 255
theorem nxB_bd {code : List Int} (hb : bOk code) (σ : Sr) : 0 ≤ nxB code σ ∧ nxB code σ ≤ 255 := by
  unfold nxB; split
  · rename_i h; exact hb _ h
  · omega
theorem nx_bd {code : List Int} (hb : bOk code) (σ : Sr) : 0 ≤ nx code σ ∧ nx code σ ≤ 255 := by
  unfold nx; split
  · exact nxB_bd hb σ
  · exact bits_and_255 _
set_option maxHeartbeats 1000000 in
theorem next_ok' (code : List Int) (σ : Sr) (hb : bOk code) (hl : code.length ≤ 10000000) (hp : σ.pos ≤ 1000000000000) : ACalls Tryz.prog 69 [.ptr 0 0] [srO code σ] (fun r o => r = I (nx code σ) ∧ o = [srO code (nxS code σ)]) := by
  refine ACalls.of_vc Tryz.func69 rfl (by decide) 62 rfl [.tmp 2] rfl (by simp) ?_
  unfold srO
  have hbb := nxB_bd hb σ
  (repeat (first | simp (maxSteps := 2000000) (disch := omega) only [go_sem, ↓reduceIte] | with_reducible refine vIf_t ?_ | with_reducible refine vIf_f ?_))
  (refine vDraw_of mixed (by kernel_rfl) ?_; (repeat (first | simp (maxSteps := 2000000) (disch := omega) only [go_sem, ↓reduceIte] | with_reducible refine vIf_t ?_ | with_reducible refine vIf_f ?_)))
  refine vIf_join1 ⟨62, 1, [(3, I (nxB code σ)), (0, .ptr 0 0)], [srO code σ]⟩ (fun h => ?_) (fun h => ?_) ?_
  · have h := of_decide_eq_true h
    have e : nxB code σ = gi code σ.pos := by unfold nxB; rw [if_pos (by omega)]
    have hx := hb σ.pos (by omega)
    (repeat (first | simp (maxSteps := 2000000) (disch := omega) only [go_sem, ↓reduceIte] | with_reducible refine vIf_t ?_ | with_reducible refine vIf_f ?_))
    (refine vDraw_of mixed (by kernel_rfl) ?_; (repeat (first | simp (maxSteps := 2000000) (disch := omega) only [go_sem, ↓reduceIte] | with_reducible refine vIf_t ?_ | with_reducible refine vIf_f ?_)))
    refine jn_same () trivial ?_
    unfold srO
    (repeat (first | simp (maxSteps := 2000000) (disch := omega) only [go_sem, ↓reduceIte, e] | with_reducible refine vIf_t ?_ | with_reducible refine vIf_f ?_))
  · have h := of_decide_eq_false h
    have e : nxB code σ = 0 := by unfold nxB; rw [if_neg (by omega)]
    (repeat (first | simp (maxSteps := 2000000) (disch := omega) only [go_sem, ↓reduceIte] | with_reducible refine vIf_t ?_ | with_reducible refine vIf_f ?_))
    refine jn_same () trivial ?_
    unfold srO
    (repeat (first | simp (maxSteps := 2000000) (disch := omega) only [go_sem, ↓reduceIte, e] | with_reducible refine vIf_t ?_ | with_reducible refine vIf_f ?_))
  · unfold srO
    (repeat (first | simp (maxSteps := 2000000) (disch := omega) only [go_sem, ↓reduceIte] | with_reducible refine vIf_t ?_ | with_reducible refine vIf_f ?_))
    (refine vDraw_of mixed (by kernel_rfl) ?_; (repeat (first | simp (maxSteps := 2000000) (disch := omega) only [go_sem, ↓reduceIte] | with_reducible refine vIf_t ?_ | with_reducible refine vIf_f ?_)))
    refine vIf_dec (fun h => ?_) (fun h => ?_)
    · have e : nx code σ = nxB code σ := by unfold nx; rw [if_pos (by omega)]
      (repeat (first | simp (maxSteps := 2000000) (disch := omega) only [go_sem, ↓reduceIte] | with_reducible refine vIf_t ?_ | with_reducible refine vIf_f ?_))
      (refine retK_of ?_; (repeat (first | simp (maxSteps := 2000000) (disch := omega) only [go_sem, ↓reduceIte] | with_reducible refine vIf_t ?_ | with_reducible refine vIf_f ?_)))
      simp [e, nxS]
    · have e : nx code σ = Go.bits .and .u64 ((nxS code σ).seed.fdiv 1099511627776) 255 := by unfold nx; rw [if_neg (by omega)]
      (repeat (first | simp (maxSteps := 2000000) (disch := omega) only [go_sem, ↓reduceIte] | with_reducible refine vIf_t ?_ | with_reducible refine vIf_f ?_))
      (refine retK_of ?_; (repeat (first | simp (maxSteps := 2000000) (disch := omega) only [go_sem, ↓reduceIte] | with_reducible refine vIf_t ?_ | with_reducible refine vIf_f ?_)))
      simp [e, nxS]
/-- a choice below n -/
def pkV (code : List Int) (n : Int) (σ : Sr) : Int := if n ≤ 1 then 0 else if 200 < n then (nx code σ * 256 + nx code (nxS code σ)).tmod n else (nx code σ).tmod n
def pkS (code : List Int) (n : Int) (σ : Sr) : Sr := if n ≤ 1 then σ else if 200 < n then nxS code (nxS code σ) else nxS code σ
theorem pkS_pos (code : List Int) (n : Int) (σ : Sr) : (pkS code n σ).pos ≤ σ.pos + 2 := by
  unfold pkS; split
  · omega
  · split <;> simp [nxS]
theorem pkV_bd {code : List Int} (hb : bOk code) (n : Int) (σ : Sr) : 0 ≤ pkV code n σ ∧ (pkV code n σ < n ∨ pkV code n σ = 0) := by
  have h1 := nx_bd hb σ
  have h2 := nx_bd hb (nxS code σ)
  unfold pkV; split
  · omega
  · split
    · rw [Int.tmod_eq_emod_of_nonneg (by omega)]
      have := Int.emod_nonneg (nx code σ * 256 + nx code (nxS code σ)) (b := n) (by omega)
      have := Int.emod_lt_of_pos (nx code σ * 256 + nx code (nxS code σ)) (b := n) (by omega)
      omega
    · rw [Int.tmod_eq_emod_of_nonneg (by omega)]
      have := Int.emod_nonneg (nx code σ) (b := n) (by omega)
      have := Int.emod_lt_of_pos (nx code σ) (b := n) (by omega)
      omega
theorem pick_ok (code : List Int) (n : Int) (σ : Sr) (hb : bOk code) (hl : code.length ≤ 10000000) (hp : σ.pos ≤ 100000000000) : ACalls Tryz.prog 37 [.ptr 0 0, I n] [srO code σ] (fun r o => r = I (pkV code n σ) ∧ o = [srO code (pkS code n σ)]) := by
  refine ACalls.of_vc Tryz.func37 rfl (by decide) 20 rfl [.tmp 4] rfl (by simp) ?_
  have h1 := nx_bd hb σ
  have h2 := nx_bd hb (nxS code σ)
  have hp2 : (nxS code σ).pos = σ.pos + 1 := rfl
  unfold srO
  (repeat (first | simp (maxSteps := 2000000) (disch := omega) only [go_sem, ↓reduceIte] | with_reducible refine vIf_t ?_ | with_reducible refine vIf_f ?_))
  refine vIf_dec (fun h => ?_) (fun h => ?_)
  · (repeat (first | simp (maxSteps := 2000000) (disch := omega) only [go_sem, ↓reduceIte] | with_reducible refine vIf_t ?_ | with_reducible refine vIf_f ?_))
    (refine retK_of ?_; (repeat (first | simp (maxSteps := 2000000) (disch := omega) only [go_sem, ↓reduceIte] | with_reducible refine vIf_t ?_ | with_reducible refine vIf_f ?_)))
    simp [pkV, pkS, h]
  · (repeat (first | simp (maxSteps := 2000000) (disch := omega) only [go_sem, ↓reduceIte] | with_reducible refine vIf_t ?_ | with_reducible refine vIf_f ?_))
    have hc1 := next_ok' code σ hb hl (by omega)
    have hc2 := next_ok' code (nxS code σ) hb hl (by omega)
    unfold srO at hc1 hc2
    (refine vCallX_io [0] ?_; (repeat (first | simp (maxSteps := 2000000) (disch := omega) only [go_sem, ↓reduceIte] | with_reducible refine vIf_t ?_ | with_reducible refine vIf_f ?_)); refine vCallIO_eq (hc1) (by simp (disch := omega) only [go_sem]) (by simp (disch := omega) only [go_sem]) (by first | rfl | (simp (disch := omega) only [go_sem])) (by first | rfl | (simp (disch := omega) only [go_sem])) (by first | rfl | (simp (disch := omega) only [go_sem])) (by first | (simp (disch := omega) only [go_sem]) | skip) ?_; (repeat (first | simp (maxSteps := 2000000) (disch := omega) only [go_sem, ↓reduceIte] | with_reducible refine vIf_t ?_ | with_reducible refine vIf_f ?_)))
    refine vIf_dec (fun h3 => ?_) (fun h3 => ?_)
    · (repeat (first | simp (maxSteps := 2000000) (disch := omega) only [go_sem, ↓reduceIte] | with_reducible refine vIf_t ?_ | with_reducible refine vIf_f ?_))
      (refine vCallX_io [0] ?_; (repeat (first | simp (maxSteps := 2000000) (disch := omega) only [go_sem, ↓reduceIte] | with_reducible refine vIf_t ?_ | with_reducible refine vIf_f ?_)); refine vCallIO_eq (hc2) (by simp (disch := omega) only [go_sem]) (by simp (disch := omega) only [go_sem]) (by first | rfl | (simp (disch := omega) only [go_sem])) (by first | rfl | (simp (disch := omega) only [go_sem])) (by first | rfl | (simp (disch := omega) only [go_sem])) (by first | (simp (disch := omega) only [go_sem]) | skip) ?_; (repeat (first | simp (maxSteps := 2000000) (disch := omega) only [go_sem, ↓reduceIte] | with_reducible refine vIf_t ?_ | with_reducible refine vIf_f ?_)))
      (refine retK_of ?_; (repeat (first | simp (maxSteps := 2000000) (disch := omega) only [go_sem, ↓reduceIte] | with_reducible refine vIf_t ?_ | with_reducible refine vIf_f ?_)))
      simp [pkV, pkS, h, h3]
    · (repeat (first | simp (maxSteps := 2000000) (disch := omega) only [go_sem, ↓reduceIte] | with_reducible refine vIf_t ?_ | with_reducible refine vIf_f ?_))
      (refine retK_of ?_; (repeat (first | simp (maxSteps := 2000000) (disch := omega) only [go_sem, ↓reduceIte] | with_reducible refine vIf_t ?_ | with_reducible refine vIf_f ?_)))
      simp [pkV, pkS, h, h3]
theorem one_ok (code : List Int) (n : Int) (σ : Sr) (hb : bOk code) (hl : code.length ≤ 10000000) (hp : σ.pos ≤ 100000000000) : ACalls Tryz.prog 36 [.ptr 0 0, I n] [srO code σ] (fun r o => r = B (pkV code n σ == 0) ∧ o = [srO code (pkS code n σ)]) := by
  refine ACalls.of_vc Tryz.func36 rfl (by decide) 9 rfl [.tmp 4] rfl (by simp) ?_
  have hc := pick_ok code n σ hb hl hp
  unfold srO at hc ⊢
  (repeat (first | simp (maxSteps := 2000000) (disch := omega) only [go_sem, ↓reduceIte] | with_reducible refine vIf_t ?_ | with_reducible refine vIf_f ?_))
  (refine vCallX_io [0] ?_; (repeat (first | simp (maxSteps := 2000000) (disch := omega) only [go_sem, ↓reduceIte] | with_reducible refine vIf_t ?_ | with_reducible refine vIf_f ?_)); refine vCallIO_eq (hc) (by simp (disch := omega) only [go_sem]) (by simp (disch := omega) only [go_sem]) (by first | rfl | (simp (disch := omega) only [go_sem])) (by first | rfl | (simp (disch := omega) only [go_sem])) (by first | rfl | (simp (disch := omega) only [go_sem])) (by first | (simp (disch := omega) only [go_sem]) | skip) ?_; (repeat (first | simp (maxSteps := 2000000) (disch := omega) only [go_sem, ↓reduceIte] | with_reducible refine vIf_t ?_ | with_reducible refine vIf_f ?_)))
  (refine retK_of ?_; (repeat (first | simp (maxSteps := 2000000) (disch := omega) only [go_sem, ↓reduceIte] | with_reducible refine vIf_t ?_ | with_reducible refine vIf_f ?_)))
theorem from_ok (code : List Int) (hl : code.length ≤ 10000000) : ACalls Tryz.prog 24 [bS code] [] (fun r o => r = .ptr 0 0 ∧ o = [srO code ⟨0, 0⟩]) := by
  refine ACalls.of_vc Tryz.func24 rfl (by decide) 6 rfl [.tmp 2] rfl (by simp) ?_
  unfold srO bS
  (repeat (first | simp (maxSteps := 2000000) (disch := omega) only [go_sem, ↓reduceIte] | with_reducible refine vIf_t ?_ | with_reducible refine vIf_f ?_))
  (refine retK_of ?_; (repeat (first | simp (maxSteps := 2000000) (disch := omega) only [go_sem, ↓reduceIte] | with_reducible refine vIf_t ?_ | with_reducible refine vIf_f ?_)))
end Go.Proofs.YtpjjjonplikilaaGreat
namespace Go.Proofs.YtpjjjonplikilaaGreat
open Go.AG

attribute [go_sem] srO List.replicate_zero
/-! short lists, written out -/
@[go_sem] theorem wrI_rep (n : Nat) (z x : Int) : wr (List.replicate (n + 1) z) 0 [x] = x :: List.replicate n z := by simp [wr, List.replicate_succ]
@[go_sem] theorem wrI_succ (x : Int) (xs : List Int) (i : Nat) (ys : List Int) : wr (x :: xs) (i + 1) ys = x :: wr xs i ys := by simp [wr, Nat.add_right_comm]
/-- a source over a code: where it may stand -/
structure SrOk (code : List Int) : Prop where
  b : bOk code
  l : code.length ≤ 10000000
theorem pick_e {code : List Int} (g : SrOk code) (n : Int) (σ : Sr) (hp : σ.pos ≤ 100000000000) : ACalls Tryz.prog 37 [.ptr 0 0, I n] [srO code σ]
    (fun r o => ∃ v σ', r = I v ∧ o = [srO code σ'] ∧ 0 ≤ v ∧ (v < n ∨ v = 0) ∧ σ'.pos ≤ σ.pos + 2) :=
  (pick_ok code n σ g.b g.l hp).mono fun _ _ ⟨h1, h2⟩ => ⟨_, _, h1, h2, (pkV_bd g.b n σ).1, (pkV_bd g.b n σ).2, pkS_pos code n σ⟩
theorem one_e {code : List Int} (g : SrOk code) (n : Int) (σ : Sr) (hp : σ.pos ≤ 100000000000) : ACalls Tryz.prog 36 [.ptr 0 0, I n] [srO code σ]
    (fun r o => ∃ b σ', r = B b ∧ o = [srO code σ'] ∧ σ'.pos ≤ σ.pos + 2) :=
  (one_ok code n σ g.b g.l hp).mono fun _ _ ⟨h1, h2⟩ => ⟨_, _, h1, h2, pkS_pos code n σ⟩
theorem from_e {code : List Int} (g : SrOk code) : ACalls Tryz.prog 24 [bS code] [] (fun r o => r = .ptr 0 0 ∧ o = [srO code ⟨0, 0⟩]) := from_ok code g.l
theorem among_e {code : List Int} (g : SrOk code) (xs : List Int) (σ : Sr) (hp : σ.pos ≤ 100000000000) (hx : 0 < xs.length ∧ xs.length ≤ 10000000) : ACalls Tryz.prog 38 [.ptr 0 0, .ref 1 0 xs.length] [srO code σ, oI xs]
    (fun r o => ∃ v σ', r = I v ∧ o = [srO code σ', oI xs] ∧ v ∈ xs ∧ σ'.pos ≤ σ.pos + 2) := by
  refine ACalls.of_vc Tryz.func38 rfl (by decide) 12 rfl [.tmp 4] rfl (by simp) ?_
  have hc := pick_e g xs.length σ hp
  (repeat (first | simp (maxSteps := 2000000) (disch := omega) only [go_sem, ↓reduceIte] | with_reducible refine vIf_t ?_ | with_reducible refine vIf_f ?_))
  (refine vCallX_io [0] ?_; (repeat (first | simp (maxSteps := 2000000) (disch := omega) only [go_sem, ↓reduceIte] | with_reducible refine vIf_t ?_ | with_reducible refine vIf_f ?_)); refine vCallIO_ex (hc) (by simp (disch := omega) only [go_sem]) (by simp (disch := omega) only [go_sem]) (by first | rfl | (simp (disch := omega) only [go_sem])) (by first | rfl | (simp (disch := omega) only [go_sem])) (by first | rfl | (simp (disch := omega) only [go_sem])) ?_); rintro _ _ ⟨v, σ', rfl, rfl, h1, h2, h3⟩; (refine ⟨by first | (simp (disch := omega) only [go_sem]) | trivial, ?_⟩; (repeat (first | simp (maxSteps := 2000000) (disch := omega) only [go_sem, ↓reduceIte] | with_reducible refine vIf_t ?_ | with_reducible refine vIf_f ?_)))
  have hlt : v.toNat < xs.length := by omega
  (try (repeat (first | simp (maxSteps := 2000000) (disch := omega) only [go_sem, ↓reduceIte] | with_reducible refine vIf_t ?_ | with_reducible refine vIf_f ?_)))
  (refine retK_of ?_; (repeat (first | simp (maxSteps := 2000000) (disch := omega) only [go_sem, ↓reduceIte] | with_reducible refine vIf_t ?_ | with_reducible refine vIf_f ?_)))
  exact ⟨_, σ', rfl, rfl, gi_mem xs _ hlt, h3⟩
theorem among_l {code : List Int} (g : SrOk code) (xs : List Int) (σ : Sr) (hp : σ.pos ≤ 100000000000) (hx : 0 < xs.length ∧ xs.length ≤ 10000000) (n : Nat) (hn : n = xs.length) (cs : List V) (hc : cs = ints xs) :
    ACalls Tryz.prog 38 [.ptr 0 0, .ref 1 0 n] [srO code σ, some ⟨1, cs⟩]
    (fun r o => ∃ v σ', r = I v ∧ o = [srO code σ', some ⟨1, cs⟩] ∧ v ∈ xs ∧ σ'.pos ≤ σ.pos + 2) := by
  subst hn hc; exact among_e g xs σ hp hx
theorem vCallX_fz {P : Program} {s : AState} {fo : Operand} {args : List Operand} {d : Option Nat} {K : AState → Prop} (l : Nat) (o : Ob) (ho : Live s.ob l o) (hi : V.immL o.cells = true) (h : vCallX P { s with sl := trS (V.frz (oneF l o)) s.sl, ob := (trO (V.frz (oneF l o)) s.ob).set l none } fo args d K) : vCallX P s fo args d K := by
  obtain ⟨s2, h1, h2⟩ := h
  exact ⟨s2, .step l o ho hi h1, h2⟩
end Go.Proofs.YtpjjjonplikilaaGreat
namespace Go.Proofs.YtpjjjonplikilaaGreat
open Go.AG

attribute [local go_sem] List.append_nil
/-- a task whose rows are objects -/
def pmV (p : Pm) (a b : Nat) : V := .agg [I p.st, I p.lo, I p.hi, I p.cap, .ref a 0 p.inf.length, .ref b 0 p.pr.length]
set_option maxRecDepth 100000 in
set_option maxHeartbeats 4000000 in
theorem l15Draw_e {code : List Int} (g : SrOk code) (σ : Sr) (hp : σ.pos ≤ 1000000) : ACalls Tryz.prog 81 [.ptr 0 0] [srO code σ]
    (fun r o => ∃ (p : Pm) (σ' : Sr), r = pmV p 1 2 ∧ o = [srO code σ', oI p.inf, oI p.pr] ∧ ((0 ≤ p.lo ∧ p.lo ≤ 20) ∧ (0 ≤ p.hi ∧ p.hi ≤ 60)) ∧ p.inf.length ≤ 9 ∧ p.pr.length ≤ 9 ∧ σ'.pos ≤ σ.pos + 1000) := by
  refine ACalls.of_vc Tryz.func81 rfl (by decide) 54 rfl [.cell 2 51] rfl (by simp) ?_
  (repeat (first | simp (maxSteps := 2000000) (disch := omega) only [go_sem, ↓reduceIte] | with_reducible refine vIf_t ?_ | with_reducible refine vIf_f ?_))
  (refine vCallX_io [0] ?_; (repeat (first | simp (maxSteps := 2000000) (disch := omega) only [go_sem, ↓reduceIte] | with_reducible refine vIf_t ?_ | with_reducible refine vIf_f ?_)); refine vCallIO_ex (pick_e g 20 σ (by omega)) (by simp (disch := omega) only [go_sem]) (by simp (disch := omega) only [go_sem]) (by first | rfl | (simp (disch := omega) only [go_sem])) (by first | rfl | (simp (disch := omega) only [go_sem])) (by first | rfl | (simp (disch := omega) only [go_sem])) ?_); rintro _ _ ⟨v1, σ1, rfl, rfl, h1, h2, h3⟩; (refine ⟨by first | (simp (disch := omega) only [go_sem]) | trivial, ?_⟩; (repeat (first | simp (maxSteps := 2000000) (disch := omega) only [go_sem, ↓reduceIte] | with_reducible refine vIf_t ?_ | with_reducible refine vIf_f ?_)))
  (refine vDraw_sch 4 [(0, false), (2, false), (1, false), (3, false)] mixed (by kernel_rfl) ?_; simp only [List.cons_append, List.nil_append, List.map_cons, List.map_nil, nthO_zero, nthO_succ, List.drop_succ_cons, List.drop_zero, List.drop_nil]; (repeat (first | simp (maxSteps := 2000000) (disch := omega) only [go_sem, ↓reduceIte] | with_reducible refine vIf_t ?_ | with_reducible refine vIf_f ?_)))
  (refine vsCallX_io [0] (by simp [disj]) ?_; (try (repeat (first | simp (maxSteps := 2000000) (disch := omega) only [go_sem, ↓reduceIte] | with_reducible refine vIf_t ?_ | with_reducible refine vIf_f ?_))); refine vCallIO_ex (pick_e g 40 σ1 (by omega)) (by simp (disch := omega) only [go_sem]) (by simp (disch := omega) only [go_sem]) (by first | rfl | (simp (disch := omega) only [go_sem])) (by first | rfl | (simp (disch := omega) only [go_sem])) (by first | rfl | (simp (disch := omega) only [go_sem])) ?_); rintro _ _ ⟨v2, σ2, rfl, rfl, h4, h5, h6⟩; (refine ⟨by first | (simp (disch := omega) only [go_sem]) | trivial, ?_⟩; (try (repeat (first | simp (maxSteps := 2000000) (disch := omega) only [go_sem, ↓reduceIte] | with_reducible refine vIf_t ?_ | with_reducible refine vIf_f ?_))))
  (repeat (first | simp (maxSteps := 2000000) (disch := omega) only [go_sem, ↓reduceIte] | with_reducible refine vIf_t ?_ | with_reducible refine vIf_f ?_))
  (refine vDraw_sch 10 [(0, false), (2, false), (3, false), (5, false), (1, false), (4, false), (6, true), (7, false), (8, false), (9, false)] mixed (by kernel_rfl) ?_; simp only [List.cons_append, List.nil_append, List.map_cons, List.map_nil, nthO_zero, nthO_succ, List.drop_succ_cons, List.drop_zero, List.drop_nil]; (repeat (first | simp (maxSteps := 2000000) (disch := omega) only [go_sem, ↓reduceIte] | with_reducible refine vIf_t ?_ | with_reducible refine vIf_f ?_)))
  (refine vsCallX_io [0] (by simp [disj]) ?_; (try (repeat (first | simp (maxSteps := 2000000) (disch := omega) only [go_sem, ↓reduceIte] | with_reducible refine vIf_t ?_ | with_reducible refine vIf_f ?_))); refine vCallIO_ex (pick_e g (v1 + v2 - v1 + 1) σ2 (by omega)) (by simp (disch := omega) only [go_sem]) (by simp (disch := omega) only [go_sem]) (by first | rfl | (simp (disch := omega) only [go_sem])) (by first | rfl | (simp (disch := omega) only [go_sem])) (by first | rfl | (simp (disch := omega) only [go_sem])) ?_); rintro _ _ ⟨v3, σ3, rfl, rfl, h7, h8, h9⟩; (refine ⟨by first | (simp (disch := omega) only [go_sem]) | trivial, ?_⟩; (try (repeat (first | simp (maxSteps := 2000000) (disch := omega) only [go_sem, ↓reduceIte] | with_reducible refine vIf_t ?_ | with_reducible refine vIf_f ?_))))
  (repeat (first | simp (maxSteps := 2000000) (disch := omega) only [go_sem, ↓reduceIte] | with_reducible refine vIf_t ?_ | with_reducible refine vIf_f ?_))
  (refine vCallX_io [0] ?_; (repeat (first | simp (maxSteps := 2000000) (disch := omega) only [go_sem, ↓reduceIte] | with_reducible refine vIf_t ?_ | with_reducible refine vIf_f ?_)); refine vCallIO_ex (pick_e g 12 σ3 (by omega)) (by simp (disch := omega) only [go_sem]) (by simp (disch := omega) only [go_sem]) (by first | rfl | (simp (disch := omega) only [go_sem])) (by first | rfl | (simp (disch := omega) only [go_sem])) (by first | rfl | (simp (disch := omega) only [go_sem])) ?_); rintro _ _ ⟨v4, σ4, rfl, rfl, h10, h11, h12⟩; (refine ⟨by first | (simp (disch := omega) only [go_sem]) | trivial, ?_⟩; (repeat (first | simp (maxSteps := 2000000) (disch := omega) only [go_sem, ↓reduceIte] | with_reducible refine vIf_t ?_ | with_reducible refine vIf_f ?_)))
  (refine vCallX_io [0] ?_; (repeat (first | simp (maxSteps := 2000000) (disch := omega) only [go_sem, ↓reduceIte] | with_reducible refine vIf_t ?_ | with_reducible refine vIf_f ?_)); refine vCallIO_ex (pick_e g 10 σ4 (by omega)) (by simp (disch := omega) only [go_sem]) (by simp (disch := omega) only [go_sem]) (by first | rfl | (simp (disch := omega) only [go_sem])) (by first | rfl | (simp (disch := omega) only [go_sem])) (by first | rfl | (simp (disch := omega) only [go_sem])) ?_); rintro _ _ ⟨v5, σ5, rfl, rfl, h13, h14, h15⟩; (refine ⟨by first | (simp (disch := omega) only [go_sem]) | trivial, ?_⟩; (repeat (first | simp (maxSteps := 2000000) (disch := omega) only [go_sem, ↓reduceIte] | with_reducible refine vIf_t ?_ | with_reducible refine vIf_f ?_)))
  refine vcLoop_invF (fun x : Int × List Int × List Int × Sr => 0 ≤ x.1 ∧ x.2.1.length + x.1.toNat ≤ 9 ∧ x.2.2.1.length + x.1.toNat ≤ 9 ∧ x.2.2.2.pos + 10 * x.1.toNat ≤ σ.pos + 200) (fun x => ⟨54, 1, [(4, I x.1), (0, .ptr 0 0), (2, .ptr 1 0), (3, .ptr 2 0)], [srO code x.2.2.2, some ⟨6, [I 0, I 0, I 0, I 0, nilS, nilS]⟩, some ⟨6, [I (v1 + v3), I v1, I (v1 + v2), I v4, .ref 3 0 x.2.1.length, .ref 4 0 x.2.2.1.length]⟩, oI x.2.1, oI x.2.2.1]⟩) (fun x => x.1.toNat) (v5, [], [], σ5) ⟨by simp only; omega, by simp; omega, by simp; omega, by simp only; omega⟩ (by (first | (refine leF_s ?_; ((repeat (first | simp (maxSteps := 2000000) (disch := omega) only [go_sem, ↓reduceIte] | with_reducible refine vIf_t ?_ | with_reducible refine vIf_f ?_)); all_goals (try simp); all_goals (try omega)); done) | (refine leF_p ?_; ((repeat (first | simp (maxSteps := 2000000) (disch := omega) only [go_sem, ↓reduceIte] | with_reducible refine vIf_t ?_ | with_reducible refine vIf_f ?_)); all_goals (try simp); all_goals (try omega)); done))) ?_
  rintro ⟨k, xs, ys, σ'⟩ ⟨g1, g2, g3, g4⟩
  simp only at g1 g2 g3 g4
  (repeat (first | simp (maxSteps := 2000000) (disch := omega) only [go_sem, ↓reduceIte] | with_reducible refine vIf_t ?_ | with_reducible refine vIf_f ?_))
  refine vIf_dec (fun h => ?_) (fun h => ?_)
  · (repeat (first | simp (maxSteps := 2000000) (disch := omega) only [go_sem, ↓reduceIte] | with_reducible refine vIf_t ?_ | with_reducible refine vIf_f ?_))
    (refine vDraw_sch 5 [(0, false), (2, false), (1, false), (3, false), (4, false)] mixed (by kernel_rfl) ?_; simp only [List.cons_append, List.nil_append, List.map_cons, List.map_nil, nthO_zero, nthO_succ, List.drop_succ_cons, List.drop_zero, List.drop_nil]; (repeat (first | simp (maxSteps := 2000000) (disch := omega) only [go_sem, ↓reduceIte] | with_reducible refine vIf_t ?_ | with_reducible refine vIf_f ?_)))
    (refine vsCallX_io [0] (by simp [disj]) ?_; (try (repeat (first | simp (maxSteps := 2000000) (disch := omega) only [go_sem, ↓reduceIte] | with_reducible refine vIf_t ?_ | with_reducible refine vIf_f ?_))); refine vCallIO_ex (pick_e g 10 σ' (by omega)) (by simp (disch := omega) only [go_sem]) (by simp (disch := omega) only [go_sem]) (by first | rfl | (simp (disch := omega) only [go_sem])) (by first | rfl | (simp (disch := omega) only [go_sem])) (by first | rfl | (simp (disch := omega) only [go_sem])) ?_); rintro _ _ ⟨v6, σ6, rfl, rfl, h16, h17, h18⟩; (refine ⟨by first | (simp (disch := omega) only [go_sem]) | trivial, ?_⟩; (try (repeat (first | simp (maxSteps := 2000000) (disch := omega) only [go_sem, ↓reduceIte] | with_reducible refine vIf_t ?_ | with_reducible refine vIf_f ?_))))
    (repeat (first | simp (maxSteps := 2000000) (disch := omega) only [go_sem, ↓reduceIte] | with_reducible refine vIf_t ?_ | with_reducible refine vIf_f ?_))
    (refine vDraw_sch 5 [(0, false), (2, false), (1, false), (3, false), (4, false)] mixed (by kernel_rfl) ?_; simp only [List.cons_append, List.nil_append, List.map_cons, List.map_nil, nthO_zero, nthO_succ, List.drop_succ_cons, List.drop_zero, List.drop_nil]; (repeat (first | simp (maxSteps := 2000000) (disch := omega) only [go_sem, ↓reduceIte] | with_reducible refine vIf_t ?_ | with_reducible refine vIf_f ?_)))
    (refine vsCallX_io [0] (by simp [disj]) ?_; (try (repeat (first | simp (maxSteps := 2000000) (disch := omega) only [go_sem, ↓reduceIte] | with_reducible refine vIf_t ?_ | with_reducible refine vIf_f ?_))); refine vCallIO_ex (pick_e g 20 σ6 (by omega)) (by simp (disch := omega) only [go_sem]) (by simp (disch := omega) only [go_sem]) (by first | rfl | (simp (disch := omega) only [go_sem])) (by first | rfl | (simp (disch := omega) only [go_sem])) (by first | rfl | (simp (disch := omega) only [go_sem])) ?_); rintro _ _ ⟨v7, σ7, rfl, rfl, h19, h20, h21⟩; (refine ⟨by first | (simp (disch := omega) only [go_sem]) | trivial, ?_⟩; (try (repeat (first | simp (maxSteps := 2000000) (disch := omega) only [go_sem, ↓reduceIte] | with_reducible refine vIf_t ?_ | with_reducible refine vIf_f ?_))))
    (repeat (first | simp (maxSteps := 2000000) (disch := omega) only [go_sem, ↓reduceIte] | with_reducible refine vIf_t ?_ | with_reducible refine vIf_f ?_))
    refine againF (k - 1, xs ++ [v6], ys ++ [v7], σ7) ⟨by simp only; omega, by simp; omega, by simp; omega, by simp only; omega⟩ (by simp only; omega) (by (first | (refine leF_s ?_; ((repeat (first | simp (maxSteps := 2000000) (disch := omega) only [go_sem, ↓reduceIte] | with_reducible refine vIf_t ?_ | with_reducible refine vIf_f ?_)); all_goals (try simp); all_goals (try omega)); done) | (refine leF_p ?_; ((repeat (first | simp (maxSteps := 2000000) (disch := omega) only [go_sem, ↓reduceIte] | with_reducible refine vIf_t ?_ | with_reducible refine vIf_f ?_)); all_goals (try simp); all_goals (try omega)); done)))
  · (repeat (first | simp (maxSteps := 2000000) (disch := omega) only [go_sem, ↓reduceIte] | with_reducible refine vIf_t ?_ | with_reducible refine vIf_f ?_))
    (refine retK_of ?_; (repeat (first | simp (maxSteps := 2000000) (disch := omega) only [go_sem, ↓reduceIte] | with_reducible refine vIf_t ?_ | with_reducible refine vIf_f ?_)))
    exact ⟨⟨v1 + v3, v1, v1 + v2, v4, xs, ys⟩, σ', rfl, rfl, ⟨by simp only; omega, by simp only; omega⟩, by simp only; omega, by simp only; omega, by omega⟩
set_option maxRecDepth 100000 in
set_option maxHeartbeats 4000000 in
theorem l15Bent_e {code : List Int} (g : SrOk code) (σ : Sr) (hp : σ.pos ≤ 1000) : ACalls Tryz.prog 47 [.ptr 0 0] [srO code σ]
    (fun r o => ∃ (p : Pm) (σ' : Sr), r = pmV p 1 2 ∧ o = [srO code σ', oI p.inf, oI p.pr] ∧ p.inf.length ≤ 49 ∧ p.pr.length ≤ 49 ∧ σ'.pos ≤ σ.pos + 2000) := by
  refine ACalls.of_vc Tryz.func47 rfl (by decide) 85 rfl [.cell 2 51] rfl (by simp) ?_
  (repeat (first | simp (maxSteps := 2000000) (disch := omega) only [go_sem, ↓reduceIte] | with_reducible refine vIf_t ?_ | with_reducible refine vIf_f ?_))
  (refine vCallX_io [0] ?_; (repeat (first | simp (maxSteps := 2000000) (disch := omega) only [go_sem, ↓reduceIte] | with_reducible refine vIf_t ?_ | with_reducible refine vIf_f ?_)); refine vCallIO_ex (l15Draw_e g σ (by omega)) (by simp (disch := omega) only [go_sem]) (by simp (disch := omega) only [go_sem]) (by first | rfl | (simp (disch := omega) only [go_sem])) (by first | rfl | (simp (disch := omega) only [go_sem])) (by first | rfl | (simp (disch := omega) only [go_sem])) ?_); rintro _ _ ⟨⟨st, lo, hi, cap, xs, ys⟩, σ1, rfl, rfl, ⟨hlo, hhi⟩, h1, h2, h3⟩; (refine ⟨by first | (simp (disch := omega) only [go_sem]) | trivial, ?_⟩; (repeat (first | simp (maxSteps := 2000000) (disch := omega) only [go_sem, ↓reduceIte] | with_reducible refine vIf_t ?_ | with_reducible refine vIf_f ?_)))
  simp only at hlo hhi h1 h2
  unfold pmV
  (repeat (first | simp (maxSteps := 2000000) (disch := omega) only [go_sem, ↓reduceIte] | with_reducible refine vIf_t ?_ | with_reducible refine vIf_f ?_))
  (refine vCallX_io [0] ?_; (repeat (first | simp (maxSteps := 2000000) (disch := omega) only [go_sem, ↓reduceIte] | with_reducible refine vIf_t ?_ | with_reducible refine vIf_f ?_)); refine vCallIO_ex (pick_e g 24 σ1 (by omega)) (by simp (disch := omega) only [go_sem]) (by simp (disch := omega) only [go_sem]) (by first | rfl | (simp (disch := omega) only [go_sem])) (by first | rfl | (simp (disch := omega) only [go_sem])) (by first | rfl | (simp (disch := omega) only [go_sem])) ?_); rintro _ _ ⟨v1, σ2, rfl, rfl, h5, h6, h7⟩; (refine ⟨by first | (simp (disch := omega) only [go_sem]) | trivial, ?_⟩; (repeat (first | simp (maxSteps := 2000000) (disch := omega) only [go_sem, ↓reduceIte] | with_reducible refine vIf_t ?_ | with_reducible refine vIf_f ?_)))
  refine vIf_beq (fun e => ?_) (fun e => ?_)
  · (repeat (first | simp (maxSteps := 2000000) (disch := omega) only [go_sem, ↓reduceIte] | with_reducible refine vIf_t ?_ | with_reducible refine vIf_f ?_))
    (refine vCallX_io [0, 5] ?_; (repeat (first | simp (maxSteps := 2000000) (disch := omega) only [go_sem, ↓reduceIte] | with_reducible refine vIf_t ?_ | with_reducible refine vIf_f ?_)); refine vCallIO_ex (among_l g [-1, lo, hi, hi + 1, lo - 1] σ2 (by omega) (by simp) 5 rfl _ rfl) (by simp (disch := omega) only [go_sem]) (by simp (disch := omega) only [go_sem]) (by first | rfl | (simp (disch := omega) only [go_sem])) (by first | rfl | (simp (disch := omega) only [go_sem])) (by first | rfl | (simp (disch := omega) only [go_sem])) ?_); rintro _ _ ⟨v2, σ3, rfl, rfl, h8, h9⟩; (refine ⟨by first | (simp (disch := omega) only [go_sem]) | trivial, ?_⟩; (repeat (first | simp (maxSteps := 2000000) (disch := omega) only [go_sem, ↓reduceIte] | with_reducible refine vIf_t ?_ | with_reducible refine vIf_f ?_)))
    (refine retK_of ?_; (repeat (first | simp (maxSteps := 2000000) (disch := omega) only [go_sem, ↓reduceIte] | with_reducible refine vIf_t ?_ | with_reducible refine vIf_f ?_)))
    exact ⟨⟨v2, lo, hi, cap, xs, ys⟩, σ3, rfl, rfl, by simp only; omega, by simp only; omega, by omega⟩
  (repeat (first | simp (maxSteps := 2000000) (disch := omega) only [go_sem, ↓reduceIte] | with_reducible refine vIf_t ?_ | with_reducible refine vIf_f ?_))
  refine vIf_beq (fun e => ?_) (fun e => ?_)
  · (repeat (first | simp (maxSteps := 2000000) (disch := omega) only [go_sem, ↓reduceIte] | with_reducible refine vIf_t ?_ | with_reducible refine vIf_f ?_))
    (refine vCallX_io [0, 5] ?_; (repeat (first | simp (maxSteps := 2000000) (disch := omega) only [go_sem, ↓reduceIte] | with_reducible refine vIf_t ?_ | with_reducible refine vIf_f ?_)); refine vCallIO_ex (among_l g [-1, 0, hi, hi + 1] σ2 (by omega) (by simp) 4 rfl _ rfl) (by simp (disch := omega) only [go_sem]) (by simp (disch := omega) only [go_sem]) (by first | rfl | (simp (disch := omega) only [go_sem])) (by first | rfl | (simp (disch := omega) only [go_sem])) (by first | rfl | (simp (disch := omega) only [go_sem])) ?_); rintro _ _ ⟨v2, σ3, rfl, rfl, h8, h9⟩; (refine ⟨by first | (simp (disch := omega) only [go_sem]) | trivial, ?_⟩; (repeat (first | simp (maxSteps := 2000000) (disch := omega) only [go_sem, ↓reduceIte] | with_reducible refine vIf_t ?_ | with_reducible refine vIf_f ?_)))
    (refine retK_of ?_; (repeat (first | simp (maxSteps := 2000000) (disch := omega) only [go_sem, ↓reduceIte] | with_reducible refine vIf_t ?_ | with_reducible refine vIf_f ?_)))
    exact ⟨⟨st, v2, hi, cap, xs, ys⟩, σ3, rfl, rfl, by simp only; omega, by simp only; omega, by omega⟩
  (repeat (first | simp (maxSteps := 2000000) (disch := omega) only [go_sem, ↓reduceIte] | with_reducible refine vIf_t ?_ | with_reducible refine vIf_f ?_))
  refine vIf_beq (fun e => ?_) (fun e => ?_)
  · (repeat (first | simp (maxSteps := 2000000) (disch := omega) only [go_sem, ↓reduceIte] | with_reducible refine vIf_t ?_ | with_reducible refine vIf_f ?_))
    (refine vCallX_io [0, 5] ?_; (repeat (first | simp (maxSteps := 2000000) (disch := omega) only [go_sem, ↓reduceIte] | with_reducible refine vIf_t ?_ | with_reducible refine vIf_f ?_)); refine vCallIO_ex (among_l g [300, 301, -9223372036854775808] σ2 (by omega) (by simp) 3 rfl _ rfl) (by simp (disch := omega) only [go_sem]) (by simp (disch := omega) only [go_sem]) (by first | rfl | (simp (disch := omega) only [go_sem])) (by first | rfl | (simp (disch := omega) only [go_sem])) (by first | rfl | (simp (disch := omega) only [go_sem])) ?_); rintro _ _ ⟨v2, σ3, rfl, rfl, h8, h9⟩; (refine ⟨by first | (simp (disch := omega) only [go_sem]) | trivial, ?_⟩; (repeat (first | simp (maxSteps := 2000000) (disch := omega) only [go_sem, ↓reduceIte] | with_reducible refine vIf_t ?_ | with_reducible refine vIf_f ?_)))
    (refine retK_of ?_; (repeat (first | simp (maxSteps := 2000000) (disch := omega) only [go_sem, ↓reduceIte] | with_reducible refine vIf_t ?_ | with_reducible refine vIf_f ?_)))
    exact ⟨⟨st, lo, v2, cap, xs, ys⟩, σ3, rfl, rfl, by simp only; omega, by simp only; omega, by omega⟩
  (repeat (first | simp (maxSteps := 2000000) (disch := omega) only [go_sem, ↓reduceIte] | with_reducible refine vIf_t ?_ | with_reducible refine vIf_f ?_))
  refine vIf_beq (fun e => ?_) (fun e => ?_)
  · (repeat (first | simp (maxSteps := 2000000) (disch := omega) only [go_sem, ↓reduceIte] | with_reducible refine vIf_t ?_ | with_reducible refine vIf_f ?_))
    (refine vCallX_io [0, 5] ?_; (repeat (first | simp (maxSteps := 2000000) (disch := omega) only [go_sem, ↓reduceIte] | with_reducible refine vIf_t ?_ | with_reducible refine vIf_f ?_)); refine vCallIO_ex (among_l g [-1, 0, 40, 41] σ2 (by omega) (by simp) 4 rfl _ rfl) (by simp (disch := omega) only [go_sem]) (by simp (disch := omega) only [go_sem]) (by first | rfl | (simp (disch := omega) only [go_sem])) (by first | rfl | (simp (disch := omega) only [go_sem])) (by first | rfl | (simp (disch := omega) only [go_sem])) ?_); rintro _ _ ⟨v2, σ3, rfl, rfl, h8, h9⟩; (refine ⟨by first | (simp (disch := omega) only [go_sem]) | trivial, ?_⟩; (repeat (first | simp (maxSteps := 2000000) (disch := omega) only [go_sem, ↓reduceIte] | with_reducible refine vIf_t ?_ | with_reducible refine vIf_f ?_)))
    (refine retK_of ?_; (repeat (first | simp (maxSteps := 2000000) (disch := omega) only [go_sem, ↓reduceIte] | with_reducible refine vIf_t ?_ | with_reducible refine vIf_f ?_)))
    exact ⟨⟨st, lo, hi, v2, xs, ys⟩, σ3, rfl, rfl, by simp only; omega, by simp only; omega, by omega⟩
  (repeat (first | simp (maxSteps := 2000000) (disch := omega) only [go_sem, ↓reduceIte] | with_reducible refine vIf_t ?_ | with_reducible refine vIf_f ?_))
  refine vIf_beq (fun e => ?_) (fun e => ?_)
  · (repeat (first | simp (maxSteps := 2000000) (disch := omega) only [go_sem, ↓reduceIte] | with_reducible refine vIf_t ?_ | with_reducible refine vIf_f ?_))
    (refine vDraw_sch 6 [(0, false), (2, false), (1, false), (3, false), (4, false), (5, false)] mixed (by kernel_rfl) ?_; simp only [List.cons_append, List.nil_append, List.map_cons, List.map_nil, nthO_zero, nthO_succ, List.drop_succ_cons, List.drop_zero, List.drop_nil]; (repeat (first | simp (maxSteps := 2000000) (disch := omega) only [go_sem, ↓reduceIte] | with_reducible refine vIf_t ?_ | with_reducible refine vIf_f ?_)))
    (refine vsCallX_io [0, 5] (by simp [disj]) ?_; (try (repeat (first | simp (maxSteps := 2000000) (disch := omega) only [go_sem, ↓reduceIte] | with_reducible refine vIf_t ?_ | with_reducible refine vIf_f ?_))); refine vCallIO_ex (among_l g [-1, 0, 40, 41] σ2 (by omega) (by simp) 4 rfl _ rfl) (by simp (disch := omega) only [go_sem]) (by simp (disch := omega) only [go_sem]) (by first | rfl | (simp (disch := omega) only [go_sem])) (by first | rfl | (simp (disch := omega) only [go_sem])) (by first | rfl | (simp (disch := omega) only [go_sem])) ?_); rintro _ _ ⟨v2, σ3, rfl, rfl, h8, h9⟩; (refine ⟨by first | (simp (disch := omega) only [go_sem]) | trivial, ?_⟩; (try (repeat (first | simp (maxSteps := 2000000) (disch := omega) only [go_sem, ↓reduceIte] | with_reducible refine vIf_t ?_ | with_reducible refine vIf_f ?_))))
    (repeat (first | simp (maxSteps := 2000000) (disch := omega) only [go_sem, ↓reduceIte] | with_reducible refine vIf_t ?_ | with_reducible refine vIf_f ?_))
    (refine vDraw_sch 6 [(0, false), (2, false), (1, false), (3, false), (4, false), (5, false)] mixed (by kernel_rfl) ?_; simp only [List.cons_append, List.nil_append, List.map_cons, List.map_nil, nthO_zero, nthO_succ, List.drop_succ_cons, List.drop_zero, List.drop_nil]; (repeat (first | simp (maxSteps := 2000000) (disch := omega) only [go_sem, ↓reduceIte] | with_reducible refine vIf_t ?_ | with_reducible refine vIf_f ?_)))
    (refine vsCallX_io [0, 7] (by simp [disj]) ?_; (try (repeat (first | simp (maxSteps := 2000000) (disch := omega) only [go_sem, ↓reduceIte] | with_reducible refine vIf_t ?_ | with_reducible refine vIf_f ?_))); refine vCallIO_ex (among_l g [-1, 0, 1000, 1001] σ3 (by omega) (by simp) 4 rfl _ rfl) (by simp (disch := omega) only [go_sem]) (by simp (disch := omega) only [go_sem]) (by first | rfl | (simp (disch := omega) only [go_sem])) (by first | rfl | (simp (disch := omega) only [go_sem])) (by first | rfl | (simp (disch := omega) only [go_sem])) ?_); rintro _ _ ⟨v3, σ4, rfl, rfl, h10, h11⟩; (refine ⟨by first | (simp (disch := omega) only [go_sem]) | trivial, ?_⟩; (try (repeat (first | simp (maxSteps := 2000000) (disch := omega) only [go_sem, ↓reduceIte] | with_reducible refine vIf_t ?_ | with_reducible refine vIf_f ?_))))
    (repeat (first | simp (maxSteps := 2000000) (disch := omega) only [go_sem, ↓reduceIte] | with_reducible refine vIf_t ?_ | with_reducible refine vIf_f ?_))
    (refine retK_of ?_; (repeat (first | simp (maxSteps := 2000000) (disch := omega) only [go_sem, ↓reduceIte] | with_reducible refine vIf_t ?_ | with_reducible refine vIf_f ?_)))
    exact ⟨⟨st, lo, hi, cap, xs ++ [v2], ys ++ [v3]⟩, σ4, by simp, rfl, by simp; omega, by simp; omega, by omega⟩
  (repeat (first | simp (maxSteps := 2000000) (disch := omega) only [go_sem, ↓reduceIte] | with_reducible refine vIf_t ?_ | with_reducible refine vIf_f ?_))
  refine vIf_beq (fun e => ?_) (fun e => ?_)
  · (repeat (first | simp (maxSteps := 2000000) (disch := omega) only [go_sem, ↓reduceIte] | with_reducible refine vIf_t ?_ | with_reducible refine vIf_f ?_))
    (refine retK_of ?_; (repeat (first | simp (maxSteps := 2000000) (disch := omega) only [go_sem, ↓reduceIte] | with_reducible refine vIf_t ?_ | with_reducible refine vIf_f ?_)))
    exact ⟨⟨st, lo, hi, cap, xs, ys ++ [1]⟩, σ2, by simp, rfl, by simp only; omega, by simp; omega, by omega⟩
  (repeat (first | simp (maxSteps := 2000000) (disch := omega) only [go_sem, ↓reduceIte] | with_reducible refine vIf_t ?_ | with_reducible refine vIf_f ?_))
  refine vIf_beq (fun e => ?_) (fun e => ?_)
  · (repeat (first | simp (maxSteps := 2000000) (disch := omega) only [go_sem, ↓reduceIte] | with_reducible refine vIf_t ?_ | with_reducible refine vIf_f ?_))
    (refine vCallX_io [0] ?_; (repeat (first | simp (maxSteps := 2000000) (disch := omega) only [go_sem, ↓reduceIte] | with_reducible refine vIf_t ?_ | with_reducible refine vIf_f ?_)); refine vCallIO_ex (pick_e g 2 σ2 (by omega)) (by simp (disch := omega) only [go_sem]) (by simp (disch := omega) only [go_sem]) (by first | rfl | (simp (disch := omega) only [go_sem])) (by first | rfl | (simp (disch := omega) only [go_sem])) (by first | rfl | (simp (disch := omega) only [go_sem])) ?_); rintro _ _ ⟨v2, σ3, rfl, rfl, h8, h9, h10⟩; (refine ⟨by first | (simp (disch := omega) only [go_sem]) | trivial, ?_⟩; (repeat (first | simp (maxSteps := 2000000) (disch := omega) only [go_sem, ↓reduceIte] | with_reducible refine vIf_t ?_ | with_reducible refine vIf_f ?_)))
    (refine retK_of ?_; (repeat (first | simp (maxSteps := 2000000) (disch := omega) only [go_sem, ↓reduceIte] | with_reducible refine vIf_t ?_ | with_reducible refine vIf_f ?_)))
    exact ⟨⟨st, lo, hi, cap, List.replicate (48 + v2).toNat 0, List.replicate (48 + v2).toNat 0⟩, σ3, by simp, by simp, by simp; omega, by simp; omega, by omega⟩
  · (repeat (first | simp (maxSteps := 2000000) (disch := omega) only [go_sem, ↓reduceIte] | with_reducible refine vIf_t ?_ | with_reducible refine vIf_f ?_))
    (refine retK_of ?_; (repeat (first | simp (maxSteps := 2000000) (disch := omega) only [go_sem, ↓reduceIte] | with_reducible refine vIf_t ?_ | with_reducible refine vIf_f ?_)))
    exact ⟨⟨st, lo, hi, cap, xs, ys⟩, σ2, rfl, rfl, by simp only; omega, by simp only; omega, by omega⟩
end Go.Proofs.YtpjjjonplikilaaGreat
namespace Go.AG
open Go Go.RowKit Go.Proofs

theorem Laid.below {P : Program} {w w' : World} {X : Nat → Prop} (h : Laid P w X) (hx : ∀ b, X b → b < w.heap.size) (hb : Below w.heap.size w w') : Laid P w' X :=
  h.mono (fun _ h => h) fun b hX => hb.block b (hx b hX)

end Go.AG
namespace Go.Proofs.YtpjjjonplikilaaGreat
open Go.AG

structure Wt where
  rain : Int
  seep : Int
  evap : Int
  pump : Int
  slu : Int
  deriving Inhabited, DecidableEq
def Wt.cells (d : Wt) : List V := [.sc (.int .i64 d.rain), .sc (.int .i64 d.seep), .sc (.int .i64 d.evap), .sc (.int .i64 d.pump), .sc (.int .i64 d.slu)]
def cWt (ds : List Wt) : List V := ds.flatMap Wt.cells
def gWt (ds : List Wt) (i : Nat) : Wt := ds.getD i default
theorem gWt_lt (ds : List Wt) (i : Nat) (h : i < ds.length) : gWt ds i = ds[i] := by simp [gWt, h]
theorem gWt_mem (ds : List Wt) (i : Nat) (h : i < ds.length) : gWt ds i ∈ ds := by rw [gWt_lt ds i h]; exact List.getElem_mem h
theorem gWt_take_succ (ds : List Wt) (i : Nat) (h : i < ds.length) : ds.take (i + 1) = ds.take i ++ [gWt ds i] := by rw [List.take_succ_eq_append_getElem h, gWt_lt ds i h]
theorem gWt_set_same (ds : List Wt) (i : Nat) (d : Wt) (h : i < ds.length) : gWt (ds.set i d) i = d := by simp [gWt, h]
@[go_sem] theorem length_cWt (ds : List Wt) : (cWt ds).length = ds.length * 5 := (rsLen Wt.cells 5 (fun _ => rfl) ds)
@[go_sem] theorem cWt_nil : cWt [] = [] := rfl
@[go_sem] theorem cWt_append (xs ys : List Wt) : cWt xs ++ cWt ys = cWt (xs ++ ys) := by simp [cWt]
@[go_sem] theorem cWt_snoc (xs : List Wt) (rain : Int) (seep : Int) (evap : Int) (pump : Int) (slu : Int) : cWt xs ++ [.sc (.int .i64 rain), .sc (.int .i64 seep), .sc (.int .i64 evap), .sc (.int .i64 pump), .sc (.int .i64 slu)] = cWt (xs ++ [⟨rain, seep, evap, pump, slu⟩]) := by simp [cWt, Wt.cells]
@[go_sem] theorem cWt_take (ds : List Wt) (n : Nat) : (cWt ds).take (n * 5) = cWt (ds.take n) := rsTake Wt.cells 5 (fun _ => rfl) ds n
@[go_sem] theorem cWt_take_all (ds : List Wt) (n : Nat) (h : ds.length * 5 ≤ n) : (cWt ds).take n = cWt ds := List.take_of_length_le (by rw [length_cWt]; exact h)
@[go_sem] theorem cWt_drop (ds : List Wt) (n : Nat) : (cWt ds).drop (n * 5) = cWt (ds.drop n) := rsDrop Wt.cells 5 (fun _ => rfl) ds n
@[go_sem high] theorem vPart_cWt (ds : List Wt) (i : Nat) (K : V → Prop) : vPart true 5 (cWt ds) (i * 5) K = grd (i < ds.length) (K (.agg [.sc (.int .i64 (gWt ds i).rain), .sc (.int .i64 (gWt ds i).seep), .sc (.int .i64 (gWt ds i).evap), .sc (.int .i64 (gWt ds i).pump), .sc (.int .i64 (gWt ds i).slu)])) := rsPart Wt.cells 5 (fun _ => rfl) (by omega) ds i K
@[go_sem] theorem cWt_at (ds : List Wt) (n : Nat) (h : n < ds.length) : (cWt (ds.drop n)).take 5 = [.sc (.int .i64 (gWt ds n).rain), .sc (.int .i64 (gWt ds n).seep), .sc (.int .i64 (gWt ds n).evap), .sc (.int .i64 (gWt ds n).pump), .sc (.int .i64 (gWt ds n).slu)] := by rw [List.drop_eq_getElem_cons h, gWt_lt ds n h]; rfl
@[go_sem] theorem cWt_at0 (ds : List Wt) (h : 0 < ds.length) : (cWt ds).take 5 = [.sc (.int .i64 (gWt ds 0).rain), .sc (.int .i64 (gWt ds 0).seep), .sc (.int .i64 (gWt ds 0).evap), .sc (.int .i64 (gWt ds 0).pump), .sc (.int .i64 (gWt ds 0).slu)] := by cases ds with | nil => simp at h | cons x r => rfl
@[go_sem] theorem vAt_cWt_0 (ds : List Wt) (i : Nat) (K : V → Prop) : vAt (cWt ds) (i * 5) K = grd (i < ds.length) (K (.sc (.int .i64 (gWt ds i).rain))) := rsAt Wt.cells 5 (fun _ => rfl) ds i 0 (by omega) (fun d => .sc (.int .i64 d.rain)) (fun _ => rfl) K
@[go_sem] theorem wr_cWt_0 (ds : List Wt) (i : Nat) (x : Int) (h : i < ds.length) : wr (cWt ds) (i * 5) [.sc (.int .i64 x)] = cWt (ds.set i {gWt ds i with rain := x}) := rsWr Wt.cells 5 (fun _ => rfl) ds i 0 (by omega) h _ _ rfl
@[go_sem] theorem vAt_cWt_1 (ds : List Wt) (i : Nat) (K : V → Prop) : vAt (cWt ds) (i * 5 + 1) K = grd (i < ds.length) (K (.sc (.int .i64 (gWt ds i).seep))) := rsAt Wt.cells 5 (fun _ => rfl) ds i 1 (by omega) (fun d => .sc (.int .i64 d.seep)) (fun _ => rfl) K
@[go_sem] theorem wr_cWt_1 (ds : List Wt) (i : Nat) (x : Int) (h : i < ds.length) : wr (cWt ds) (i * 5 + 1) [.sc (.int .i64 x)] = cWt (ds.set i {gWt ds i with seep := x}) := rsWr Wt.cells 5 (fun _ => rfl) ds i 1 (by omega) h _ _ rfl
@[go_sem] theorem vAt_cWt_2 (ds : List Wt) (i : Nat) (K : V → Prop) : vAt (cWt ds) (i * 5 + 2) K = grd (i < ds.length) (K (.sc (.int .i64 (gWt ds i).evap))) := rsAt Wt.cells 5 (fun _ => rfl) ds i 2 (by omega) (fun d => .sc (.int .i64 d.evap)) (fun _ => rfl) K
@[go_sem] theorem wr_cWt_2 (ds : List Wt) (i : Nat) (x : Int) (h : i < ds.length) : wr (cWt ds) (i * 5 + 2) [.sc (.int .i64 x)] = cWt (ds.set i {gWt ds i with evap := x}) := rsWr Wt.cells 5 (fun _ => rfl) ds i 2 (by omega) h _ _ rfl
@[go_sem] theorem vAt_cWt_3 (ds : List Wt) (i : Nat) (K : V → Prop) : vAt (cWt ds) (i * 5 + 3) K = grd (i < ds.length) (K (.sc (.int .i64 (gWt ds i).pump))) := rsAt Wt.cells 5 (fun _ => rfl) ds i 3 (by omega) (fun d => .sc (.int .i64 d.pump)) (fun _ => rfl) K
@[go_sem] theorem wr_cWt_3 (ds : List Wt) (i : Nat) (x : Int) (h : i < ds.length) : wr (cWt ds) (i * 5 + 3) [.sc (.int .i64 x)] = cWt (ds.set i {gWt ds i with pump := x}) := rsWr Wt.cells 5 (fun _ => rfl) ds i 3 (by omega) h _ _ rfl
@[go_sem] theorem vAt_cWt_4 (ds : List Wt) (i : Nat) (K : V → Prop) : vAt (cWt ds) (i * 5 + 4) K = grd (i < ds.length) (K (.sc (.int .i64 (gWt ds i).slu))) := rsAt Wt.cells 5 (fun _ => rfl) ds i 4 (by omega) (fun d => .sc (.int .i64 d.slu)) (fun _ => rfl) K
@[go_sem] theorem wr_cWt_4 (ds : List Wt) (i : Nat) (x : Int) (h : i < ds.length) : wr (cWt ds) (i * 5 + 4) [.sc (.int .i64 x)] = cWt (ds.set i {gWt ds i with slu := x}) := rsWr Wt.cells 5 (fun _ => rfl) ds i 4 (by omega) h _ _ rfl
@[go_sem] theorem wr_cWt_0_set (ds : List Wt) (i i0 : Nat) (d : Wt) (x : Int) (h : i < ds.length) : wr (cWt (ds.set i0 d)) (i * 5) [.sc (.int .i64 x)] = cWt ((ds.set i0 d).set i {gWt (ds.set i0 d) i with rain := x}) := wr_cWt_0 _ _ _ (by rw [List.length_set]; exact h)
@[go_sem] theorem wr_cWt_1_set (ds : List Wt) (i i0 : Nat) (d : Wt) (x : Int) (h : i < ds.length) : wr (cWt (ds.set i0 d)) (i * 5 + 1) [.sc (.int .i64 x)] = cWt ((ds.set i0 d).set i {gWt (ds.set i0 d) i with seep := x}) := wr_cWt_1 _ _ _ (by rw [List.length_set]; exact h)
@[go_sem] theorem wr_cWt_2_set (ds : List Wt) (i i0 : Nat) (d : Wt) (x : Int) (h : i < ds.length) : wr (cWt (ds.set i0 d)) (i * 5 + 2) [.sc (.int .i64 x)] = cWt ((ds.set i0 d).set i {gWt (ds.set i0 d) i with evap := x}) := wr_cWt_2 _ _ _ (by rw [List.length_set]; exact h)
@[go_sem] theorem wr_cWt_3_set (ds : List Wt) (i i0 : Nat) (d : Wt) (x : Int) (h : i < ds.length) : wr (cWt (ds.set i0 d)) (i * 5 + 3) [.sc (.int .i64 x)] = cWt ((ds.set i0 d).set i {gWt (ds.set i0 d) i with pump := x}) := wr_cWt_3 _ _ _ (by rw [List.length_set]; exact h)
@[go_sem] theorem wr_cWt_4_set (ds : List Wt) (i i0 : Nat) (d : Wt) (x : Int) (h : i < ds.length) : wr (cWt (ds.set i0 d)) (i * 5 + 4) [.sc (.int .i64 x)] = cWt ((ds.set i0 d).set i {gWt (ds.set i0 d) i with slu := x}) := wr_cWt_4 _ _ _ (by rw [List.length_set]; exact h)
attribute [go_sem] gWt_set_same
@[go_sem] theorem wr_cWt_all (ds : List Wt) (i : Nat) (rain : Int) (seep : Int) (evap : Int) (pump : Int) (slu : Int) (h : i < ds.length) : wr (cWt ds) (i * 5) [.sc (.int .i64 rain), .sc (.int .i64 seep), .sc (.int .i64 evap), .sc (.int .i64 pump), .sc (.int .i64 slu)] = cWt (ds.set i ⟨rain, seep, evap, pump, slu⟩) := rsWrAll Wt.cells 5 (fun _ => rfl) ds i h ⟨rain, seep, evap, pump, slu⟩
@[go_sem] theorem imm_cWt (ds : List Wt) : V.immL (cWt ds) = true := by induction ds with | nil => rfl | cons x xs ih => exact ih
@[go_sem] theorem one_cWt (ds : List Wt) : V.oneL (cWt ds) = true := by induction ds with | nil => rfl | cons x xs ih => exact ih
@[go_sem] theorem noref_cWt (ds : List Wt) : V.norefL (cWt ds) = true := by induction ds with | nil => rfl | cons x xs ih => exact ih
@[go_sem] theorem flat_cWt (ds : List Wt) : V.flatL (cWt ds) = true := by induction ds with | nil => rfl | cons x xs ih => exact ih
@[go_sem] theorem kill_cWt (p : Nat → Bool) (ds : List Wt) : V.killL p (cWt ds) = cWt ds := killL_noref p _ (noref_cWt ds)
@[go_sem] theorem frz_cWt (f : Nat → Option Ob) (ds : List Wt) : V.frzL f (cWt ds) = cWt ds := frzL_noref f _ (noref_cWt ds)
@[go_sem] theorem ren_cWt (g : Nat → Nat) (ds : List Wt) : V.renL g (cWt ds) = cWt ds := by induction ds with | nil => rfl | cons x xs ih => exact congrArg (x.cells ++ ·) ih
@[go_sem] theorem reps_cWt (n : Nat) : reps n [V.sc (.int .i64 0), V.sc (.int .i64 0), V.sc (.int .i64 0), V.sc (.int .i64 0), V.sc (.int .i64 0)] = cWt (List.replicate n ⟨0, 0, 0, 0, 0⟩) := rsReps Wt.cells n ⟨0, 0, 0, 0, 0⟩
@[go_sem] theorem map_cWt_inj (xs ys : List Wt) : (cWt xs = cWt ys) = (xs = ys) := propext ⟨rsInj Wt.cells 5 (fun _ => rfl) (by omega) (fun a b h => by cases a; cases b; simpa [Wt.cells] using h) xs ys, fun h => by rw [h]⟩
@[go_sem] theorem cWt_rep0 (d : Wt) : cWt (List.replicate 0 d) = [] := rfl
@[go_sem] theorem wr_cWt_rep1 (d : Wt) (rain : Int) (seep : Int) (evap : Int) (pump : Int) (slu : Int) : wr (cWt (List.replicate 1 d)) 0 [.sc (.int .i64 rain), .sc (.int .i64 seep), .sc (.int .i64 evap), .sc (.int .i64 pump), .sc (.int .i64 slu)] = cWt [⟨rain, seep, evap, pump, slu⟩] := rfl
@[go_sem] theorem cWt_take1 (d : Wt) : (cWt [d]).take 5 = cWt [d] := rfl
theorem l13New_e {code : List Int} (g : SrOk code) (σ : Sr) (hp : σ.pos ≤ 10000000000) : ACalls Tryz.prog 113 [.ptr 0 0] [srO code σ]
    (fun r o => ∃ (p : Wt) (σ' : Sr), r = .agg p.cells ∧ o = [srO code σ'] ∧ σ'.pos ≤ σ.pos + 10) := by
  refine ACalls.of_vc Tryz.func113 rfl (by decide) 25 rfl [.cell 2 76] rfl (by simp) ?_
  (repeat (first | simp (maxSteps := 2000000) (disch := omega) only [go_sem, ↓reduceIte] | with_reducible refine vIf_t ?_ | with_reducible refine vIf_f ?_))
  (refine vCallX_io [0] ?_; (repeat (first | simp (maxSteps := 2000000) (disch := omega) only [go_sem, ↓reduceIte] | with_reducible refine vIf_t ?_ | with_reducible refine vIf_f ?_)); refine vCallIO_ex (pick_e g 90 σ (by omega)) (by simp (disch := omega) only [go_sem]) (by simp (disch := omega) only [go_sem]) (by first | rfl | (simp (disch := omega) only [go_sem])) (by first | rfl | (simp (disch := omega) only [go_sem])) (by first | rfl | (simp (disch := omega) only [go_sem])) ?_); rintro _ _ ⟨v1, σ1, rfl, rfl, h1, h2, h3⟩; (refine ⟨by first | (simp (disch := omega) only [go_sem]) | trivial, ?_⟩; (repeat (first | simp (maxSteps := 2000000) (disch := omega) only [go_sem, ↓reduceIte] | with_reducible refine vIf_t ?_ | with_reducible refine vIf_f ?_)))
  (refine vCallX_io [0] ?_; (repeat (first | simp (maxSteps := 2000000) (disch := omega) only [go_sem, ↓reduceIte] | with_reducible refine vIf_t ?_ | with_reducible refine vIf_f ?_)); refine vCallIO_ex (pick_e g 20 σ1 (by omega)) (by simp (disch := omega) only [go_sem]) (by simp (disch := omega) only [go_sem]) (by first | rfl | (simp (disch := omega) only [go_sem])) (by first | rfl | (simp (disch := omega) only [go_sem])) (by first | rfl | (simp (disch := omega) only [go_sem])) ?_); rintro _ _ ⟨v2, σ2, rfl, rfl, h4, h5, h6⟩; (refine ⟨by first | (simp (disch := omega) only [go_sem]) | trivial, ?_⟩; (repeat (first | simp (maxSteps := 2000000) (disch := omega) only [go_sem, ↓reduceIte] | with_reducible refine vIf_t ?_ | with_reducible refine vIf_f ?_)))
  (refine vCallX_io [0] ?_; (repeat (first | simp (maxSteps := 2000000) (disch := omega) only [go_sem, ↓reduceIte] | with_reducible refine vIf_t ?_ | with_reducible refine vIf_f ?_)); refine vCallIO_ex (pick_e g 30 σ2 (by omega)) (by simp (disch := omega) only [go_sem]) (by simp (disch := omega) only [go_sem]) (by first | rfl | (simp (disch := omega) only [go_sem])) (by first | rfl | (simp (disch := omega) only [go_sem])) (by first | rfl | (simp (disch := omega) only [go_sem])) ?_); rintro _ _ ⟨v3, σ3, rfl, rfl, h7, h8, h9⟩; (refine ⟨by first | (simp (disch := omega) only [go_sem]) | trivial, ?_⟩; (repeat (first | simp (maxSteps := 2000000) (disch := omega) only [go_sem, ↓reduceIte] | with_reducible refine vIf_t ?_ | with_reducible refine vIf_f ?_)))
  (refine vCallX_io [0] ?_; (repeat (first | simp (maxSteps := 2000000) (disch := omega) only [go_sem, ↓reduceIte] | with_reducible refine vIf_t ?_ | with_reducible refine vIf_f ?_)); refine vCallIO_ex (pick_e g 60 σ3 (by omega)) (by simp (disch := omega) only [go_sem]) (by simp (disch := omega) only [go_sem]) (by first | rfl | (simp (disch := omega) only [go_sem])) (by first | rfl | (simp (disch := omega) only [go_sem])) (by first | rfl | (simp (disch := omega) only [go_sem])) ?_); rintro _ _ ⟨v4, σ4, rfl, rfl, h10, h11, h12⟩; (refine ⟨by first | (simp (disch := omega) only [go_sem]) | trivial, ?_⟩; (repeat (first | simp (maxSteps := 2000000) (disch := omega) only [go_sem, ↓reduceIte] | with_reducible refine vIf_t ?_ | with_reducible refine vIf_f ?_)))
  (refine vCallX_io [0] ?_; (repeat (first | simp (maxSteps := 2000000) (disch := omega) only [go_sem, ↓reduceIte] | with_reducible refine vIf_t ?_ | with_reducible refine vIf_f ?_)); refine vCallIO_ex (pick_e g 30 σ4 (by omega)) (by simp (disch := omega) only [go_sem]) (by simp (disch := omega) only [go_sem]) (by first | rfl | (simp (disch := omega) only [go_sem])) (by first | rfl | (simp (disch := omega) only [go_sem])) (by first | rfl | (simp (disch := omega) only [go_sem])) ?_); rintro _ _ ⟨v5, σ5, rfl, rfl, h13, h14, h15⟩; (refine ⟨by first | (simp (disch := omega) only [go_sem]) | trivial, ?_⟩; (repeat (first | simp (maxSteps := 2000000) (disch := omega) only [go_sem, ↓reduceIte] | with_reducible refine vIf_t ?_ | with_reducible refine vIf_f ?_)))
  (refine retK_of ?_; (repeat (first | simp (maxSteps := 2000000) (disch := omega) only [go_sem, ↓reduceIte] | with_reducible refine vIf_t ?_ | with_reducible refine vIf_f ?_)))
  exact ⟨⟨_, _, _, _, _⟩, σ5, rfl, rfl, by omega⟩
theorem l13Draw_e {code : List Int} (g : SrOk code) (σ : Sr) (hp : σ.pos ≤ 1000000000) : ACalls Tryz.prog 96 [.ptr 0 0] [srO code σ]
    (fun r o => ∃ (ds : List Wt) (σ' : Sr), r = .ref 1 0 ds.length ∧ o = [srO code σ', some ⟨5, cWt ds⟩] ∧ ds.length ≤ 8 ∧ σ'.pos ≤ σ.pos + 100) := by
  refine ACalls.of_vc Tryz.func96 rfl (by decide) 18 rfl [.tmp 2] rfl (by simp) ?_
  (repeat (first | simp (maxSteps := 2000000) (disch := omega) only [go_sem, ↓reduceIte] | with_reducible refine vIf_t ?_ | with_reducible refine vIf_f ?_))
  (refine vCallX_io [0] ?_; (repeat (first | simp (maxSteps := 2000000) (disch := omega) only [go_sem, ↓reduceIte] | with_reducible refine vIf_t ?_ | with_reducible refine vIf_f ?_)); refine vCallIO_ex (pick_e g 9 σ (by omega)) (by simp (disch := omega) only [go_sem]) (by simp (disch := omega) only [go_sem]) (by first | rfl | (simp (disch := omega) only [go_sem])) (by first | rfl | (simp (disch := omega) only [go_sem])) (by first | rfl | (simp (disch := omega) only [go_sem])) ?_); rintro _ _ ⟨v2, σ2, rfl, rfl, h4, h5, h6⟩; (refine ⟨by first | (simp (disch := omega) only [go_sem]) | trivial, ?_⟩; (repeat (first | simp (maxSteps := 2000000) (disch := omega) only [go_sem, ↓reduceIte] | with_reducible refine vIf_t ?_ | with_reducible refine vIf_f ?_)))
  refine vcLoop_inv (fun x : Int × List Wt × Sr => 0 ≤ x.1 ∧ x.2.1.length + x.1.toNat ≤ 8 ∧ x.2.2.pos + 10 * x.1.toNat ≤ σ.pos + 82) (fun x => ⟨18, 1, [(4, I x.1), (0, .ptr 0 0), (3, .ref 1 0 x.2.1.length)], [srO code x.2.2, some ⟨5, cWt x.2.1⟩]⟩) (fun x => x.1.toNat) (v2, [], σ2) ⟨h4, by simp; omega, by simp; omega⟩ (by (repeat (first | simp (maxSteps := 2000000) (disch := omega) only [go_sem, ↓reduceIte] | with_reducible refine vIf_t ?_ | with_reducible refine vIf_f ?_)); omega) ?_
  rintro ⟨k, ds, σ'⟩ ⟨g1, g2, g3⟩
  simp only at g1 g2 g3
  (repeat (first | simp (maxSteps := 2000000) (disch := omega) only [go_sem, ↓reduceIte] | with_reducible refine vIf_t ?_ | with_reducible refine vIf_f ?_))
  refine vIf_dec (fun h => ?_) (fun h => ?_)
  · (repeat (first | simp (maxSteps := 2000000) (disch := omega) only [go_sem, ↓reduceIte] | with_reducible refine vIf_t ?_ | with_reducible refine vIf_f ?_))
    (refine vCallX_io [0] ?_; (repeat (first | simp (maxSteps := 2000000) (disch := omega) only [go_sem, ↓reduceIte] | with_reducible refine vIf_t ?_ | with_reducible refine vIf_f ?_)); refine vCallIO_ex (l13New_e g σ' (by omega)) (by simp (disch := omega) only [go_sem]) (by simp (disch := omega) only [go_sem]) (by first | rfl | (simp (disch := omega) only [go_sem])) (by first | rfl | (simp (disch := omega) only [go_sem])) (by first | rfl | (simp (disch := omega) only [go_sem])) ?_); rintro _ _ ⟨p, σ3, rfl, rfl, h7⟩; (refine ⟨by first | (simp (disch := omega) only [go_sem]) | trivial, ?_⟩; (repeat (first | simp (maxSteps := 2000000) (disch := omega) only [go_sem, ↓reduceIte] | with_reducible refine vIf_t ?_ | with_reducible refine vIf_f ?_)))
    unfold Wt.cells
    (repeat (first | simp (maxSteps := 2000000) (disch := omega) only [go_sem, ↓reduceIte] | with_reducible refine vIf_t ?_ | with_reducible refine vIf_f ?_))
    refine again (k - 1, ds ++ [p], σ3) ⟨by omega, by simp; omega, by simp; omega⟩ (by simp; omega) ?_
    ((repeat (first | simp (maxSteps := 2000000) (disch := omega) only [go_sem, ↓reduceIte] | with_reducible refine vIf_t ?_ | with_reducible refine vIf_f ?_)); all_goals (try simp); all_goals (try omega))
  · (repeat (first | simp (maxSteps := 2000000) (disch := omega) only [go_sem, ↓reduceIte] | with_reducible refine vIf_t ?_ | with_reducible refine vIf_f ?_))
    (refine retK_of ?_; (repeat (first | simp (maxSteps := 2000000) (disch := omega) only [go_sem, ↓reduceIte] | with_reducible refine vIf_t ?_ | with_reducible refine vIf_f ?_)))
    exact ⟨ds, σ', rfl, rfl, by omega, by omega⟩
theorem l13Spoil_e {code : List Int} (g : SrOk code) (σ : Sr) (ds : List Wt) (i : Nat) (hp : σ.pos ≤ 10000000000) (hi : i < ds.length) (hl : ds.length ≤ 10000000) :
    ACalls Tryz.prog 97 [.ptr 0 0, .ptr 1 (i * 5)] [srO code σ, some ⟨5, cWt ds⟩]
    (fun r o => ∃ (ds' : List Wt) (σ' : Sr), r = .tup [] ∧ o = [srO code σ', some ⟨5, cWt ds'⟩] ∧ ds'.length = ds.length ∧ σ'.pos ≤ σ.pos + 4) := by
  refine ACalls.of_vc Tryz.func97 rfl (by decide) 40 rfl [] rfl (by simp) ?_
  (repeat (first | simp (maxSteps := 2000000) (disch := omega) only [go_sem, ↓reduceIte] | with_reducible refine vIf_t ?_ | with_reducible refine vIf_f ?_))
  (refine vCallX_io [0, 2] ?_; (repeat (first | simp (maxSteps := 2000000) (disch := omega) only [go_sem, ↓reduceIte] | with_reducible refine vIf_t ?_ | with_reducible refine vIf_f ?_)); refine vCallIO_ex (among_l g [-1, 0, 10000000, 10000001, -9223372036854775808] σ (by omega) (by simp) _ rfl _ rfl) (by simp (disch := omega) only [go_sem]) (by simp (disch := omega) only [go_sem]) (by first | rfl | (simp (disch := omega) only [go_sem])) (by first | rfl | (simp (disch := omega) only [go_sem])) (by first | rfl | (simp (disch := omega) only [go_sem])) ?_); rintro _ _ ⟨v2, σ1, rfl, rfl, h4, h5⟩; (refine ⟨by first | (simp (disch := omega) only [go_sem]) | trivial, ?_⟩; (repeat (first | simp (maxSteps := 2000000) (disch := omega) only [go_sem, ↓reduceIte] | with_reducible refine vIf_t ?_ | with_reducible refine vIf_f ?_)))
  (refine vCallX_io [0] ?_; (repeat (first | simp (maxSteps := 2000000) (disch := omega) only [go_sem, ↓reduceIte] | with_reducible refine vIf_t ?_ | with_reducible refine vIf_f ?_)); refine vCallIO_ex (pick_e g 5 σ1 (by omega)) (by simp (disch := omega) only [go_sem]) (by simp (disch := omega) only [go_sem]) (by first | rfl | (simp (disch := omega) only [go_sem])) (by first | rfl | (simp (disch := omega) only [go_sem])) (by first | rfl | (simp (disch := omega) only [go_sem])) ?_); rintro _ _ ⟨v1, σ2, rfl, rfl, h1, h2, h3⟩; (refine ⟨by first | (simp (disch := omega) only [go_sem]) | trivial, ?_⟩; (repeat (first | simp (maxSteps := 2000000) (disch := omega) only [go_sem, ↓reduceIte] | with_reducible refine vIf_t ?_ | with_reducible refine vIf_f ?_)))
  refine vIf_beq (fun h => ?_) (fun h => ?_)
  · (repeat (first | simp (maxSteps := 2000000) (disch := omega) only [go_sem, ↓reduceIte] | with_reducible refine vIf_t ?_ | with_reducible refine vIf_f ?_))
    (refine retK_of ?_; (repeat (first | simp (maxSteps := 2000000) (disch := omega) only [go_sem, ↓reduceIte] | with_reducible refine vIf_t ?_ | with_reducible refine vIf_f ?_)))
    exact ⟨_, σ2, rfl, by simp, by omega⟩
  (repeat (first | simp (maxSteps := 2000000) (disch := omega) only [go_sem, ↓reduceIte] | with_reducible refine vIf_t ?_ | with_reducible refine vIf_f ?_))
  refine vIf_beq (fun h => ?_) (fun h => ?_)
  · (repeat (first | simp (maxSteps := 2000000) (disch := omega) only [go_sem, ↓reduceIte] | with_reducible refine vIf_t ?_ | with_reducible refine vIf_f ?_))
    (refine retK_of ?_; (repeat (first | simp (maxSteps := 2000000) (disch := omega) only [go_sem, ↓reduceIte] | with_reducible refine vIf_t ?_ | with_reducible refine vIf_f ?_)))
    exact ⟨_, σ2, rfl, by simp, by omega⟩
  (repeat (first | simp (maxSteps := 2000000) (disch := omega) only [go_sem, ↓reduceIte] | with_reducible refine vIf_t ?_ | with_reducible refine vIf_f ?_))
  refine vIf_beq (fun h => ?_) (fun h => ?_)
  · (repeat (first | simp (maxSteps := 2000000) (disch := omega) only [go_sem, ↓reduceIte] | with_reducible refine vIf_t ?_ | with_reducible refine vIf_f ?_))
    (refine retK_of ?_; (repeat (first | simp (maxSteps := 2000000) (disch := omega) only [go_sem, ↓reduceIte] | with_reducible refine vIf_t ?_ | with_reducible refine vIf_f ?_)))
    exact ⟨_, σ2, rfl, by simp, by omega⟩
  (repeat (first | simp (maxSteps := 2000000) (disch := omega) only [go_sem, ↓reduceIte] | with_reducible refine vIf_t ?_ | with_reducible refine vIf_f ?_))
  refine vIf_beq (fun h => ?_) (fun h => ?_)
  · (repeat (first | simp (maxSteps := 2000000) (disch := omega) only [go_sem, ↓reduceIte] | with_reducible refine vIf_t ?_ | with_reducible refine vIf_f ?_))
    (refine retK_of ?_; (repeat (first | simp (maxSteps := 2000000) (disch := omega) only [go_sem, ↓reduceIte] | with_reducible refine vIf_t ?_ | with_reducible refine vIf_f ?_)))
    exact ⟨_, σ2, rfl, by simp, by omega⟩
  (repeat (first | simp (maxSteps := 2000000) (disch := omega) only [go_sem, ↓reduceIte] | with_reducible refine vIf_t ?_ | with_reducible refine vIf_f ?_))
  (refine retK_of ?_; (repeat (first | simp (maxSteps := 2000000) (disch := omega) only [go_sem, ↓reduceIte] | with_reducible refine vIf_t ?_ | with_reducible refine vIf_f ?_)))
  exact ⟨_, σ2, rfl, by simp, by omega⟩
set_option maxHeartbeats 4000000 in
theorem l13Bent_e {code : List Int} (g : SrOk code) (σ : Sr) (hp : σ.pos ≤ 100000000) : ACalls Tryz.prog 61 [.ptr 0 0] [srO code σ]
    (fun r o => ∃ (ds : List Wt) (σ' : Sr), r = .ref 1 0 ds.length ∧ o = [srO code σ', some ⟨5, cWt ds⟩] ∧ ds.length ≤ 101 ∧ σ'.pos ≤ σ.pos + 200) := by
  refine ACalls.of_vc Tryz.func61 rfl (by decide) 28 rfl [.tmp 2] rfl (by simp) ?_
  (repeat (first | simp (maxSteps := 2000000) (disch := omega) only [go_sem, ↓reduceIte] | with_reducible refine vIf_t ?_ | with_reducible refine vIf_f ?_))
  (refine vCallX_io [0] ?_; (repeat (first | simp (maxSteps := 2000000) (disch := omega) only [go_sem, ↓reduceIte] | with_reducible refine vIf_t ?_ | with_reducible refine vIf_f ?_)); refine vCallIO_ex (l13Draw_e g σ (by omega)) (by simp (disch := omega) only [go_sem]) (by simp (disch := omega) only [go_sem]) (by first | rfl | (simp (disch := omega) only [go_sem])) (by first | rfl | (simp (disch := omega) only [go_sem])) (by first | rfl | (simp (disch := omega) only [go_sem])) ?_); rintro _ _ ⟨ds, σ1, rfl, rfl, h1, h2⟩; (refine ⟨by first | (simp (disch := omega) only [go_sem]) | trivial, ?_⟩; (repeat (first | simp (maxSteps := 2000000) (disch := omega) only [go_sem, ↓reduceIte] | with_reducible refine vIf_t ?_ | with_reducible refine vIf_f ?_)))
  (refine vCallX_io [0] ?_; (repeat (first | simp (maxSteps := 2000000) (disch := omega) only [go_sem, ↓reduceIte] | with_reducible refine vIf_t ?_ | with_reducible refine vIf_f ?_)); refine vCallIO_ex (pick_e g 16 σ1 (by omega)) (by simp (disch := omega) only [go_sem]) (by simp (disch := omega) only [go_sem]) (by first | rfl | (simp (disch := omega) only [go_sem])) (by first | rfl | (simp (disch := omega) only [go_sem])) (by first | rfl | (simp (disch := omega) only [go_sem])) ?_); rintro _ _ ⟨v, σ2, rfl, rfl, h3, h4, h5⟩; (refine ⟨by first | (simp (disch := omega) only [go_sem]) | trivial, ?_⟩; (repeat (first | simp (maxSteps := 2000000) (disch := omega) only [go_sem, ↓reduceIte] | with_reducible refine vIf_t ?_ | with_reducible refine vIf_f ?_)))
  refine vIf_beq (fun h => ?_) (fun h => ?_)
  · (repeat (first | simp (maxSteps := 2000000) (disch := omega) only [go_sem, ↓reduceIte] | with_reducible refine vIf_t ?_ | with_reducible refine vIf_f ?_))
    refine vIf_dec (fun h0 => ?_) (fun h0 => ?_)
    · (repeat (first | simp (maxSteps := 2000000) (disch := omega) only [go_sem, ↓reduceIte] | with_reducible refine vIf_t ?_ | with_reducible refine vIf_f ?_))
      (refine vCallX_io [0] ?_; (repeat (first | simp (maxSteps := 2000000) (disch := omega) only [go_sem, ↓reduceIte] | with_reducible refine vIf_t ?_ | with_reducible refine vIf_f ?_)); refine vCallIO_ex (pick_e g ds.length σ2 (by omega)) (by simp (disch := omega) only [go_sem]) (by simp (disch := omega) only [go_sem]) (by first | rfl | (simp (disch := omega) only [go_sem])) (by first | rfl | (simp (disch := omega) only [go_sem])) (by first | rfl | (simp (disch := omega) only [go_sem])) ?_); rintro _ _ ⟨v, σ4, rfl, rfl, h4, h5, h6⟩; (refine ⟨by first | (simp (disch := omega) only [go_sem]) | trivial, ?_⟩; (repeat (first | simp (maxSteps := 2000000) (disch := omega) only [go_sem, ↓reduceIte] | with_reducible refine vIf_t ?_ | with_reducible refine vIf_f ?_)))
      (refine vCallX_io [0, 1] ?_; (repeat (first | simp (maxSteps := 2000000) (disch := omega) only [go_sem, ↓reduceIte] | with_reducible refine vIf_t ?_ | with_reducible refine vIf_f ?_)); refine vCallIO_ex (l13Spoil_e g σ4 ds v.toNat (by omega) (by omega) (by omega)) (by simp (disch := omega) only [go_sem]) (by simp (disch := omega) only [go_sem]) (by first | rfl | (simp (disch := omega) only [go_sem])) (by first | rfl | (simp (disch := omega) only [go_sem])) (by first | rfl | (simp (disch := omega) only [go_sem])) ?_); rintro _ _ ⟨es, σ5, rfl, rfl, h7, h8⟩; (refine ⟨by first | (simp (disch := omega) only [go_sem]) | trivial, ?_⟩; (repeat (first | simp (maxSteps := 2000000) (disch := omega) only [go_sem, ↓reduceIte] | with_reducible refine vIf_t ?_ | with_reducible refine vIf_f ?_)))
      rw [← h7]
      (refine retK_of ?_; (repeat (first | simp (maxSteps := 2000000) (disch := omega) only [go_sem, ↓reduceIte] | with_reducible refine vIf_t ?_ | with_reducible refine vIf_f ?_)))
      exact ⟨es, σ5, rfl, rfl, by omega, by omega⟩
    · (repeat (first | simp (maxSteps := 2000000) (disch := omega) only [go_sem, ↓reduceIte] | with_reducible refine vIf_t ?_ | with_reducible refine vIf_f ?_))
      (refine retK_of ?_; (repeat (first | simp (maxSteps := 2000000) (disch := omega) only [go_sem, ↓reduceIte] | with_reducible refine vIf_t ?_ | with_reducible refine vIf_f ?_)))
      exact ⟨ds, σ2, rfl, rfl, by omega, by omega⟩
  · (repeat (first | simp (maxSteps := 2000000) (disch := omega) only [go_sem, ↓reduceIte] | with_reducible refine vIf_t ?_ | with_reducible refine vIf_f ?_))
    refine vIf_beq (fun h0 => ?_) (fun h0 => ?_)
    · (repeat (first | simp (maxSteps := 2000000) (disch := omega) only [go_sem, ↓reduceIte] | with_reducible refine vIf_t ?_ | with_reducible refine vIf_f ?_))
      (refine vCallX_io [0] ?_; (repeat (first | simp (maxSteps := 2000000) (disch := omega) only [go_sem, ↓reduceIte] | with_reducible refine vIf_t ?_ | with_reducible refine vIf_f ?_)); refine vCallIO_ex (pick_e g 2 σ2 (by omega)) (by simp (disch := omega) only [go_sem]) (by simp (disch := omega) only [go_sem]) (by first | rfl | (simp (disch := omega) only [go_sem])) (by first | rfl | (simp (disch := omega) only [go_sem])) (by first | rfl | (simp (disch := omega) only [go_sem])) ?_); rintro _ _ ⟨v, σ4, rfl, rfl, h4, h5, h6⟩; (refine ⟨by first | (simp (disch := omega) only [go_sem]) | trivial, ?_⟩; (repeat (first | simp (maxSteps := 2000000) (disch := omega) only [go_sem, ↓reduceIte] | with_reducible refine vIf_t ?_ | with_reducible refine vIf_f ?_)))
      obtain ⟨m, hm⟩ : ∃ m : Nat, 100 + v = m := ⟨(100 + v).toNat, by omega⟩
      (repeat (first | simp (maxSteps := 2000000) (disch := omega) only [go_sem, ↓reduceIte, hm] | with_reducible refine vIf_t ?_ | with_reducible refine vIf_f ?_))
      (refine retK_of ?_; (repeat (first | simp (maxSteps := 2000000) (disch := omega) only [go_sem, ↓reduceIte] | with_reducible refine vIf_t ?_ | with_reducible refine vIf_f ?_)))
      exact ⟨List.replicate m ⟨0, 0, 0, 0, 0⟩, σ4, by simp, rfl, by simp; omega, by omega⟩
    · (repeat (first | simp (maxSteps := 2000000) (disch := omega) only [go_sem, ↓reduceIte] | with_reducible refine vIf_t ?_ | with_reducible refine vIf_f ?_))
      (refine retK_of ?_; (repeat (first | simp (maxSteps := 2000000) (disch := omega) only [go_sem, ↓reduceIte] | with_reducible refine vIf_t ?_ | with_reducible refine vIf_f ?_)))
      exact ⟨ds, σ2, rfl, rfl, by omega, by omega⟩
theorem l13DrawVolume_e {code : List Int} (g : SrOk code) (σ : Sr) (hp : σ.pos ≤ 1000000000) : ACalls Tryz.prog 60 [.ptr 0 0] [srO code σ]
    (fun r o => ∃ (v : Int) (σ' : Sr), r = I v ∧ o = [srO code σ'] ∧ -1 ≤ v ∧ v ≤ 1000000001 ∧ σ'.pos ≤ σ.pos + 4) := by
  refine ACalls.of_vc Tryz.func60 rfl (by decide) 11 rfl [.tmp 2] rfl (by simp) ?_
  (repeat (first | simp (maxSteps := 2000000) (disch := omega) only [go_sem, ↓reduceIte] | with_reducible refine vIf_t ?_ | with_reducible refine vIf_f ?_))
  (refine vCallX_io [0] ?_; (repeat (first | simp (maxSteps := 2000000) (disch := omega) only [go_sem, ↓reduceIte] | with_reducible refine vIf_t ?_ | with_reducible refine vIf_f ?_)); refine vCallIO_ex (one_e g 12 σ (by omega)) (by simp (disch := omega) only [go_sem]) (by simp (disch := omega) only [go_sem]) (by first | rfl | (simp (disch := omega) only [go_sem])) (by first | rfl | (simp (disch := omega) only [go_sem])) (by first | rfl | (simp (disch := omega) only [go_sem])) ?_); rintro _ _ ⟨b, σ1, rfl, rfl, h1⟩; (refine ⟨by first | (simp (disch := omega) only [go_sem]) | trivial, ?_⟩; (repeat (first | simp (maxSteps := 2000000) (disch := omega) only [go_sem, ↓reduceIte] | with_reducible refine vIf_t ?_ | with_reducible refine vIf_f ?_)))
  refine vIf_bool (fun h => ?_) (fun h => ?_)
  · (repeat (first | simp (maxSteps := 2000000) (disch := omega) only [go_sem, ↓reduceIte] | with_reducible refine vIf_t ?_ | with_reducible refine vIf_f ?_))
    (refine vCallX_io [0, 1] ?_; (repeat (first | simp (maxSteps := 2000000) (disch := omega) only [go_sem, ↓reduceIte] | with_reducible refine vIf_t ?_ | with_reducible refine vIf_f ?_)); refine vCallIO_ex (among_l g [-1, 0, 1000000000, 1000000001] σ1 (by omega) (by simp) _ rfl _ rfl) (by simp (disch := omega) only [go_sem]) (by simp (disch := omega) only [go_sem]) (by first | rfl | (simp (disch := omega) only [go_sem])) (by first | rfl | (simp (disch := omega) only [go_sem])) (by first | rfl | (simp (disch := omega) only [go_sem])) ?_); rintro _ _ ⟨v, σ2, rfl, rfl, h4, h5⟩; (refine ⟨by first | (simp (disch := omega) only [go_sem]) | trivial, ?_⟩; (repeat (first | simp (maxSteps := 2000000) (disch := omega) only [go_sem, ↓reduceIte] | with_reducible refine vIf_t ?_ | with_reducible refine vIf_f ?_)))
    (refine retK_of ?_; (repeat (first | simp (maxSteps := 2000000) (disch := omega) only [go_sem, ↓reduceIte] | with_reducible refine vIf_t ?_ | with_reducible refine vIf_f ?_)))
    simp at h4
    exact ⟨v, σ2, rfl, rfl, by omega, by omega, by omega⟩
  · (repeat (first | simp (maxSteps := 2000000) (disch := omega) only [go_sem, ↓reduceIte] | with_reducible refine vIf_t ?_ | with_reducible refine vIf_f ?_))
    (refine vCallX_io [0] ?_; (repeat (first | simp (maxSteps := 2000000) (disch := omega) only [go_sem, ↓reduceIte] | with_reducible refine vIf_t ?_ | with_reducible refine vIf_f ?_)); refine vCallIO_ex (pick_e g 400 σ1 (by omega)) (by simp (disch := omega) only [go_sem]) (by simp (disch := omega) only [go_sem]) (by first | rfl | (simp (disch := omega) only [go_sem])) (by first | rfl | (simp (disch := omega) only [go_sem])) (by first | rfl | (simp (disch := omega) only [go_sem])) ?_); rintro _ _ ⟨v, σ2, rfl, rfl, h2, h3, h4⟩; (refine ⟨by first | (simp (disch := omega) only [go_sem]) | trivial, ?_⟩; (repeat (first | simp (maxSteps := 2000000) (disch := omega) only [go_sem, ↓reduceIte] | with_reducible refine vIf_t ?_ | with_reducible refine vIf_f ?_)))
    (refine retK_of ?_; (repeat (first | simp (maxSteps := 2000000) (disch := omega) only [go_sem, ↓reduceIte] | with_reducible refine vIf_t ?_ | with_reducible refine vIf_f ?_)))
    exact ⟨_, σ2, rfl, rfl, by omega, by omega, by omega⟩
theorem l13Ask_e {code : List Int} (g : SrOk code) (σ : Sr) (hp : σ.pos ≤ 10000000) : ACalls Tryz.prog 23 [.ptr 0 0] [srO code σ]
    (fun r o => ∃ (ds : List Wt) (v : Int) (σ' : Sr), r = .tup [I v, .ref 1 0 ds.length] ∧ o = [srO code σ', some ⟨5, cWt ds⟩] ∧ ds.length ≤ 101 ∧ -1 ≤ v ∧ v ≤ 1000000001 ∧ σ'.pos ≤ σ.pos + 300) := by
  refine ACalls.of_vc Tryz.func23 rfl (by decide) 10 rfl [.tmp 2, .tmp 3] rfl (by simp) ?_
  (repeat (first | simp (maxSteps := 2000000) (disch := omega) only [go_sem, ↓reduceIte] | with_reducible refine vIf_t ?_ | with_reducible refine vIf_f ?_))
  (refine vCallX_io [0] ?_; (repeat (first | simp (maxSteps := 2000000) (disch := omega) only [go_sem, ↓reduceIte] | with_reducible refine vIf_t ?_ | with_reducible refine vIf_f ?_)); refine vCallIO_ex (l13DrawVolume_e g σ (by omega)) (by simp (disch := omega) only [go_sem]) (by simp (disch := omega) only [go_sem]) (by first | rfl | (simp (disch := omega) only [go_sem])) (by first | rfl | (simp (disch := omega) only [go_sem])) (by first | rfl | (simp (disch := omega) only [go_sem])) ?_); rintro _ _ ⟨v, σ1, rfl, rfl, h1, h2, h3⟩; (refine ⟨by first | (simp (disch := omega) only [go_sem]) | trivial, ?_⟩; (repeat (first | simp (maxSteps := 2000000) (disch := omega) only [go_sem, ↓reduceIte] | with_reducible refine vIf_t ?_ | with_reducible refine vIf_f ?_)))
  (refine vCallX_io [0] ?_; (repeat (first | simp (maxSteps := 2000000) (disch := omega) only [go_sem, ↓reduceIte] | with_reducible refine vIf_t ?_ | with_reducible refine vIf_f ?_)); refine vCallIO_ex (l13Bent_e g σ1 (by omega)) (by simp (disch := omega) only [go_sem]) (by simp (disch := omega) only [go_sem]) (by first | rfl | (simp (disch := omega) only [go_sem])) (by first | rfl | (simp (disch := omega) only [go_sem])) (by first | rfl | (simp (disch := omega) only [go_sem])) ?_); rintro _ _ ⟨ds, σ2, rfl, rfl, h4, h5⟩; (refine ⟨by first | (simp (disch := omega) only [go_sem]) | trivial, ?_⟩; (repeat (first | simp (maxSteps := 2000000) (disch := omega) only [go_sem, ↓reduceIte] | with_reducible refine vIf_t ?_ | with_reducible refine vIf_f ?_)))
  (refine retK_of ?_; (repeat (first | simp (maxSteps := 2000000) (disch := omega) only [go_sem, ↓reduceIte] | with_reducible refine vIf_t ?_ | with_reducible refine vIf_f ?_)))
  exact ⟨ds, v, σ2, rfl, rfl, h4, h1, h2, by omega⟩
end Go.Proofs.YtpjjjonplikilaaGreat

/- storage curves: plain facts -/
import Derived.Test.YtcmkkejcnomcdaaX4
import Derived.Test.YtcmkkejcnomcdaaAgZ
set_option linter.unusedVariables false
set_option linter.unusedSimpArgs false
namespace Go.Proofs.Ytcmkkejcnomcdaa
open Go.AG

structure Cv where
  lv : List Int
  vl : List Int
  deriving Inhabited, DecidableEq
def Cv.cells (d : Cv) : List V := [.sl (d.lv).length (ints (d.lv)), .sl (d.vl).length (ints (d.vl))]
def cCv (ds : List Cv) : List V := ds.flatMap Cv.cells
def gCv (ds : List Cv) (i : Nat) : Cv := ds.getD i default
theorem gCv_lt (ds : List Cv) (i : Nat) (h : i < ds.length) : gCv ds i = ds[i] := by simp [gCv, h]
theorem gCv_mem (ds : List Cv) (i : Nat) (h : i < ds.length) : gCv ds i ∈ ds := by rw [gCv_lt ds i h]; exact List.getElem_mem h
theorem gCv_take_succ (ds : List Cv) (i : Nat) (h : i < ds.length) : ds.take (i + 1) = ds.take i ++ [gCv ds i] := by rw [List.take_succ_eq_append_getElem h, gCv_lt ds i h]
theorem gCv_set_same (ds : List Cv) (i : Nat) (d : Cv) (h : i < ds.length) : gCv (ds.set i d) i = d := by simp [gCv, h]
theorem gCv_set_ne (ds : List Cv) (i j : Nat) (d : Cv) (h : i ≠ j) : gCv (ds.set i d) j = gCv ds j := by simp [gCv, h]
theorem gCv_app_l (xs ys : List Cv) (i : Nat) (h : i < xs.length) : gCv (xs ++ ys) i = gCv xs i := by simp [gCv, List.getElem?_append_left h]
theorem gCv_app_r (xs ys : List Cv) (i : Nat) (h : xs.length ≤ i) : gCv (xs ++ ys) i = gCv ys (i - xs.length) := by simp [gCv, List.getElem?_append_right h]
theorem cCv_eq (ds : List Cv) : cCv ds = (ds.map Cv.cells).flatten := by rw [cCv, List.flatMap_def]
@[go_sem] theorem length_cCv (ds : List Cv) : (cCv ds).length = ds.length * 2 := (rsLen Cv.cells 2 (fun _ => rfl) ds)
@[go_sem] theorem cCv_nil : cCv [] = [] := rfl
@[go_sem] theorem cCv_append (xs ys : List Cv) : cCv xs ++ cCv ys = cCv (xs ++ ys) := by simp [cCv]
theorem cCv_one (d : Cv) : cCv [d] = d.cells := by simp [cCv]
@[go_sem] theorem cCv_snoc (xs : List Cv) (lv : List Int) (vl : List Int) : cCv xs ++ [.sl (lv).length (ints (lv)), .sl (vl).length (ints (vl))] = cCv (xs ++ [⟨lv, vl⟩]) := by simp [cCv, Cv.cells]
@[go_sem] theorem cCv_take (ds : List Cv) (n : Nat) : (cCv ds).take (n * 2) = cCv (ds.take n) := rsTake Cv.cells 2 (fun _ => rfl) ds n
@[go_sem] theorem cCv_take_all (ds : List Cv) (n : Nat) (h : ds.length * 2 ≤ n) : (cCv ds).take n = cCv ds := List.take_of_length_le (by rw [length_cCv]; exact h)
@[go_sem] theorem cCv_drop (ds : List Cv) (n : Nat) : (cCv ds).drop (n * 2) = cCv (ds.drop n) := rsDrop Cv.cells 2 (fun _ => rfl) ds n
@[go_sem high] theorem vPart_cCv (ds : List Cv) (i : Nat) (K : V → Prop) : vPart true 2 (cCv ds) (i * 2) K = grd (i < ds.length) (K (.agg [.sl ((gCv ds i).lv).length (ints ((gCv ds i).lv)), .sl ((gCv ds i).vl).length (ints ((gCv ds i).vl))])) := rsPart Cv.cells 2 (fun _ => rfl) (by omega) ds i K
@[go_sem] theorem cCv_at (ds : List Cv) (n : Nat) (h : n < ds.length) : (cCv (ds.drop n)).take 2 = [.sl ((gCv ds n).lv).length (ints ((gCv ds n).lv)), .sl ((gCv ds n).vl).length (ints ((gCv ds n).vl))] := by rw [List.drop_eq_getElem_cons h, gCv_lt ds n h]; rfl
@[go_sem] theorem cCv_at0 (ds : List Cv) (h : 0 < ds.length) : (cCv ds).take 2 = [.sl ((gCv ds 0).lv).length (ints ((gCv ds 0).lv)), .sl ((gCv ds 0).vl).length (ints ((gCv ds 0).vl))] := by cases ds with | nil => simp at h | cons x r => rfl
@[go_sem] theorem vAt_cCv_0 (ds : List Cv) (i : Nat) (K : V → Prop) : vAt (cCv ds) (i * 2) K = grd (i < ds.length) (K (.sl ((gCv ds i).lv).length (ints ((gCv ds i).lv)))) := rsAt Cv.cells 2 (fun _ => rfl) ds i 0 (by omega) (fun d => .sl (d.lv).length (ints (d.lv))) (fun _ => rfl) K
@[go_sem] theorem wr_cCv_0 (ds : List Cv) (i : Nat) (x : List Int) (h : i < ds.length) : wr (cCv ds) (i * 2) [.sl (x).length (ints (x))] = cCv (ds.set i {gCv ds i with lv := x}) := rsWr Cv.cells 2 (fun _ => rfl) ds i 0 (by omega) h _ _ rfl
@[go_sem] theorem vAt_cCv_1 (ds : List Cv) (i : Nat) (K : V → Prop) : vAt (cCv ds) (i * 2 + 1) K = grd (i < ds.length) (K (.sl ((gCv ds i).vl).length (ints ((gCv ds i).vl)))) := rsAt Cv.cells 2 (fun _ => rfl) ds i 1 (by omega) (fun d => .sl (d.vl).length (ints (d.vl))) (fun _ => rfl) K
@[go_sem] theorem wr_cCv_1 (ds : List Cv) (i : Nat) (x : List Int) (h : i < ds.length) : wr (cCv ds) (i * 2 + 1) [.sl (x).length (ints (x))] = cCv (ds.set i {gCv ds i with vl := x}) := rsWr Cv.cells 2 (fun _ => rfl) ds i 1 (by omega) h _ _ rfl
@[go_sem] theorem wr_cCv_0_set (ds : List Cv) (i i0 : Nat) (d : Cv) (x : List Int) (h : i < ds.length) : wr (cCv (ds.set i0 d)) (i * 2) [.sl (x).length (ints (x))] = cCv ((ds.set i0 d).set i {gCv (ds.set i0 d) i with lv := x}) := wr_cCv_0 _ _ _ (by rw [List.length_set]; exact h)
@[go_sem] theorem wr_cCv_1_set (ds : List Cv) (i i0 : Nat) (d : Cv) (x : List Int) (h : i < ds.length) : wr (cCv (ds.set i0 d)) (i * 2 + 1) [.sl (x).length (ints (x))] = cCv ((ds.set i0 d).set i {gCv (ds.set i0 d) i with vl := x}) := wr_cCv_1 _ _ _ (by rw [List.length_set]; exact h)
attribute [go_sem] gCv_set_same
@[go_sem] theorem wr_cCv_all (ds : List Cv) (i : Nat) (lv : List Int) (vl : List Int) (h : i < ds.length) : wr (cCv ds) (i * 2) [.sl (lv).length (ints (lv)), .sl (vl).length (ints (vl))] = cCv (ds.set i ⟨lv, vl⟩) := rsWrAll Cv.cells 2 (fun _ => rfl) ds i h ⟨lv, vl⟩
@[go_sem] theorem imm_cCv (ds : List Cv) : V.immL (cCv ds) = true := by induction ds with | nil => rfl | cons x xs ih => exact ih
@[go_sem] theorem one_cCv (ds : List Cv) : V.oneL (cCv ds) = true := by induction ds with | nil => rfl | cons x xs ih => exact ih
@[go_sem] theorem noref_cCv (ds : List Cv) : V.norefL (cCv ds) = true := by induction ds with | nil => rfl | cons x xs ih => exact ih
@[go_sem] theorem kill_cCv (p : Nat → Bool) (ds : List Cv) : V.killL p (cCv ds) = cCv ds := killL_noref p _ (noref_cCv ds)
@[go_sem] theorem frz_cCv (f : Nat → Option Ob) (ds : List Cv) : V.frzL f (cCv ds) = cCv ds := frzL_noref f _ (noref_cCv ds)
@[go_sem] theorem ren_cCv (g : Nat → Nat) (ds : List Cv) : V.renL g (cCv ds) = cCv ds := by induction ds with | nil => rfl | cons x xs ih => exact congrArg (x.cells ++ ·) ih
@[go_sem] theorem cCv_rep0 (d : Cv) : cCv (List.replicate 0 d) = [] := rfl
@[go_sem] theorem wr_cCv_rep1 (d : Cv) (lv : List Int) (vl : List Int) : wr (cCv (List.replicate 1 d)) 0 [.sl (lv).length (ints (lv)), .sl (vl).length (ints (vl))] = cCv [⟨lv, vl⟩] := rfl
@[go_sem] theorem cCv_take1 (d : Cv) : (cCv [d]).take 2 = cCv [d] := rfl
def okC (c : Cv) : Bool := decide (2 ≤ (c.lv.length : Int) ∧ (c.lv.length : Int) ≤ 12) && (decide (c.vl.length = c.lv.length) && (risesB c.lv (-2000) 2000 && (risesB c.vl 0 1000000000 && decide (gi c.vl 0 = 0))))
/-- what a valid curve is -/
structure CvF (c : Cv) : Prop where
  n2 : 2 ≤ c.lv.length
  n12 : c.lv.length ≤ 12
  vn : c.vl.length = c.lv.length
  lb : ∀ i, i < c.lv.length → -2000 ≤ gi c.lv i ∧ gi c.lv i ≤ 2000
  vb : ∀ i, i < c.lv.length → 0 ≤ gi c.vl i ∧ gi c.vl i ≤ 1000000000
  lr : ∀ i j, i < j → j < c.lv.length → gi c.lv i < gi c.lv j
  vr : ∀ i j, i < j → j < c.lv.length → gi c.vl i < gi c.vl j
  v0 : gi c.vl 0 = 0
theorem rises_lt {xs : List Int} {lo hi : Int} (h : risesB xs lo hi = true) : (∀ i, i < xs.length → lo ≤ gi xs i ∧ gi xs i ≤ hi) ∧ ∀ i j, i < j → j < xs.length → gi xs i < gi xs j := by
  have h := of_decide_eq_true h
  have h1 : ∀ i, i < xs.length → (lo ≤ gi xs i ∧ gi xs i ≤ hi) ∧ (0 < i → gi xs (i - 1) < gi xs i) := by
    intro i hi
    have h2 := h i hi
    unfold rok at h2
    rw [show ((i : Int) - 1).toNat = i - 1 by omega] at h2
    simp only [Bool.and_eq_true, decide_eq_true_eq, Bool.not_eq_true', decide_eq_false_iff_not] at h2
    exact ⟨h2.1, fun h => by have := h2.2; omega⟩
  refine ⟨fun i hi => (h1 i hi).1, fun i j hij => ?_⟩
  induction j with
  | zero => omega
  | succ j ih =>
    intro hj
    have h4 := (h1 (j + 1) hj).2 (by omega)
    simp only [Nat.add_sub_cancel] at h4
    by_cases e : i = j
    · subst e; exact h4
    · have := ih (by omega) (by omega); omega
theorem okC_f {c : Cv} (h : okC c = true) : CvF c := by
  simp only [okC, Bool.and_eq_true, decide_eq_true_eq] at h
  obtain ⟨h1, h2, h3, h4, h5⟩ := h
  have a := rises_lt h3
  have b := rises_lt h4
  rw [h2] at b
  exact ⟨by omega, by omega, h2, a.1, b.1, a.2, b.2, h5⟩
/-- the knot below a level -/
def knK (lv : List Int) (x : Int) : Nat → Nat
  | 0 => 0
  | i + 1 => if gi lv i ≤ x then i else knK lv x i
def knt (c : Cv) (x : Int) : Nat := knK c.lv x (c.lv.length - 1)
structure Knt (c : Cv) (x : Int) (k : Nat) : Prop where
  lt : k + 2 ≤ c.lv.length
  le : 0 < k → gi c.lv k ≤ x
  up : ∀ j, k < j → j + 1 < c.lv.length → x < gi c.lv j
theorem knK_ok {c : Cv} (f : CvF c) (x : Int) (m : Nat) (hm : m + 1 ≤ c.lv.length) : (knK c.lv x m = 0 ∨ knK c.lv x m < m) ∧ (0 < knK c.lv x m → gi c.lv (knK c.lv x m) ≤ x) ∧ (∀ j, knK c.lv x m < j → j < m → x < gi c.lv j) := by
  induction m with
  | zero => exact ⟨.inl rfl, fun h => absurd h (by simp [knK]), fun j _ hj => by omega⟩
  | succ m ih =>
    obtain ⟨i1, i2, i3⟩ := ih (by omega)
    simp only [knK]
    split
    · rename_i h
      exact ⟨.inr (by omega), fun _ => h, fun j hj hj2 => by omega⟩
    · rename_i h
      refine ⟨by omega, i2, fun j hj hj2 => ?_⟩
      by_cases e : j = m
      · subst e; omega
      · exact i3 j hj (by omega)
theorem knt_ok {c : Cv} (f : CvF c) (x : Int) : Knt c x (knt c x) := by
  have h2 := f.n2
  obtain ⟨h3, h4, h5⟩ := knK_ok f x (c.lv.length - 1) (by omega)
  refine ⟨?_, h4, fun j hj hj2 => h5 j hj (by omega)⟩
  show knK c.lv x (c.lv.length - 1) + 2 ≤ _
  omega
theorem Knt.uniq {c : Cv} (f : CvF c) {x : Int} {a b : Nat} (h1 : Knt c x a) (h2 : Knt c x b) : a = b := by
  rcases Nat.lt_trichotomy a b with h | h | h
  · have := h1.up b h (by have := h2.lt; omega); have := h2.le (by omega); omega
  · exact h
  · have := h2.up a h (by have := h1.lt; omega); have := h1.le (by omega); omega
def hi' (c : Cv) : Int := gi c.lv (c.lv.length - 1)
def lo' (c : Cv) : Int := gi c.lv 0
/-- the volume at a level -/
def vlm (c : Cv) (x : Int) : Int := gi c.vl (knt c x) + ((gi c.vl (knt c x + 1) - gi c.vl (knt c x)) * (x - gi c.lv (knt c x))).tdiv (gi c.lv (knt c x + 1) - gi c.lv (knt c x))
theorem tdiv_bd {u w d : Int} (hu : 0 ≤ u) (hd : 0 < d) (hw : 0 ≤ w) (hwd : w ≤ d) : 0 ≤ (u * w).tdiv d ∧ (u * w).tdiv d ≤ u := by
  have h0 : 0 ≤ u * w := Int.mul_nonneg hu hw
  rw [Int.tdiv_eq_ediv_of_nonneg h0]
  refine ⟨Int.ediv_nonneg h0 (by omega), ?_⟩
  have : u * w ≤ u * d := Int.mul_le_mul_of_nonneg_left hwd hu
  exact Int.le_trans (Int.ediv_le_ediv hd this) (by rw [Int.mul_ediv_cancel _ (by omega)]; exact Int.le_refl _)
theorem vlm_seg {c : Cv} (f : CvF c) (x : Int) (h : lo' c ≤ x ∧ x ≤ hi' c) : gi c.lv (knt c x) ≤ x ∧ x ≤ gi c.lv (knt c x + 1) ∧ gi c.vl (knt c x) ≤ vlm c x ∧ vlm c x ≤ gi c.vl (knt c x + 1) := by
  have hk := knt_ok f x
  have h1 := hk.lt
  have hle : gi c.lv (knt c x) ≤ x := by
    by_cases e : knt c x = 0
    · rw [e]; exact h.1
    · exact hk.le (by omega)
  have hup : x ≤ gi c.lv (knt c x + 1) := by
    by_cases e : knt c x + 2 = c.lv.length
    · have := h.2; unfold hi' at this; rw [show c.lv.length - 1 = knt c x + 1 by omega] at this; exact this
    · have := hk.up (knt c x + 1) (by omega) (by omega); omega
  have hv := f.vr (knt c x) (knt c x + 1) (by omega) (by omega)
  have hl := f.lr (knt c x) (knt c x + 1) (by omega) (by omega)
  have := tdiv_bd (u := gi c.vl (knt c x + 1) - gi c.vl (knt c x)) (w := x - gi c.lv (knt c x)) (d := gi c.lv (knt c x + 1) - gi c.lv (knt c x)) (by omega) (by omega) (by omega) (by omega)
  unfold vlm
  omega
theorem vlm_mono {c : Cv} (f : CvF c) (x y : Int) (h0 : lo' c ≤ x) (h : x ≤ y) (h1 : y ≤ hi' c) : vlm c x ≤ vlm c y := by
  have hx := vlm_seg f x ⟨h0, by omega⟩
  have hy := vlm_seg f y ⟨by omega, h1⟩
  have kx := knt_ok f x
  have ky := knt_ok f y
  rcases Nat.lt_trichotomy (knt c x) (knt c y) with e | e | e
  · have : gi c.vl (knt c x + 1) ≤ gi c.vl (knt c y) := by
      by_cases e2 : knt c x + 1 = knt c y
      · rw [e2]; exact Int.le_refl _
      · have := f.vr (knt c x + 1) (knt c y) (by omega) (by have := ky.lt; omega); omega
    omega
  · unfold vlm
    rw [← e]
    have hv := f.vr (knt c x) (knt c x + 1) (by omega) (by have := kx.lt; omega)
    have hl := f.lr (knt c x) (knt c x + 1) (by omega) (by have := kx.lt; omega)
    have h5 : (gi c.vl (knt c x + 1) - gi c.vl (knt c x)) * (x - gi c.lv (knt c x)) ≤ (gi c.vl (knt c x + 1) - gi c.vl (knt c x)) * (y - gi c.lv (knt c x)) := Int.mul_le_mul_of_nonneg_left (by omega) (by omega)
    have h6 : 0 ≤ (gi c.vl (knt c x + 1) - gi c.vl (knt c x)) * (x - gi c.lv (knt c x)) := Int.mul_nonneg (by omega) (by omega)
    rw [Int.tdiv_eq_ediv_of_nonneg h6, Int.tdiv_eq_ediv_of_nonneg (by omega)]
    have := Int.ediv_le_ediv (c := gi c.lv (knt c x + 1) - gi c.lv (knt c x)) (by omega) h5
    omega
  · have h2 := ky.up (knt c x) e (by have := kx.lt; omega)
    have := kx.le (by omega)
    omega
theorem vlm_lo {c : Cv} (f : CvF c) : vlm c (lo' c) = 0 := by
  have h2 := f.n2
  have hl : lo' c ≤ hi' c := by have := f.lr 0 (c.lv.length - 1) (by omega) (by omega); unfold lo' hi'; omega
  have hk := knt_ok f (lo' c)
  have e : knt c (lo' c) = 0 := Knt.uniq f hk ⟨by omega, fun h => by omega, fun j hj hj2 => f.lr 0 j hj (by omega)⟩
  unfold vlm
  rw [e, f.v0]
  simp [lo']
theorem vlm_hi {c : Cv} (f : CvF c) : vlm c (hi' c) = gi c.vl (c.lv.length - 1) := by
  have h2 := f.n2
  have hk := knt_ok f (hi' c)
  have e : knt c (hi' c) = c.lv.length - 2 := Knt.uniq f hk ⟨by omega, fun _ => by have := f.lr (c.lv.length - 2) (c.lv.length - 1) (by omega) (by omega); unfold hi'; omega, fun j hj hj2 => by omega⟩
  unfold vlm
  rw [e, show c.lv.length - 2 + 1 = c.lv.length - 1 by omega]
  have hl := f.lr (c.lv.length - 2) (c.lv.length - 1) (by omega) (by omega)
  unfold hi'
  rw [Int.mul_tdiv_cancel _ (by omega)]
  omega
/-- the lowest level with a volume -/
structure LvOf (c : Cv) (v r : Int) : Prop where
  lo : lo' c ≤ r
  hi : r ≤ hi' c
  ge : v ≤ vlm c r
  lt : lo' c < r → vlm c (r - 1) < v
theorem LvOf.uniq {c : Cv} (f : CvF c) {v a b : Int} (h1 : LvOf c v a) (h2 : LvOf c v b) : a = b := by
  have l1 := h1.lo; have l2 := h2.lo; have u1 := h1.hi; have u2 := h2.hi; have g1 := h1.ge; have g2 := h2.ge
  rcases Int.lt_trichotomy a b with h | h | h
  · have := h2.lt (by omega); have := vlm_mono f a (b - 1) l1 (by omega) (by omega); omega
  · exact h
  · have := h1.lt (by omega); have := vlm_mono f b (a - 1) l2 (by omega) (by omega); omega
end Go.Proofs.Ytcmkkejcnomcdaa

/- storage curves: volumes and levels -/
import Derived.Test.YtneokdflhleidaaDoorCurve3
set_option linter.unusedVariables false
set_option linter.unusedSimpArgs false
namespace Go.Proofs.YtneokdflhleidaaDoor
open Go.AG

def inC (c : Cv) (x : Int) : Prop := lo' c ≤ x ∧ x ≤ hi' c
instance (c : Cv) (x : Int) : Decidable (inC c x) := inferInstanceAs (Decidable (_ ∧ _))
/-- what holds at a level within the curve -/
theorem vlm_run {c : Cv} (f : CvF c) {x : Int} (h : inC c x) (k : Nat) (hkd : k = knt c x) :
    k + 1 < c.lv.length ∧ (0 ≤ gi c.vl (k + 1) - gi c.vl k ∧ gi c.vl (k + 1) - gi c.vl k ≤ 1000000000) ∧ (0 ≤ x - gi c.lv k ∧ x - gi c.lv k ≤ 4000) ∧ (1 ≤ gi c.lv (k + 1) - gi c.lv k ∧ gi c.lv (k + 1) - gi c.lv k ≤ 4000) ∧
    (0 ≤ (gi c.vl (k + 1) - gi c.vl k) * (x - gi c.lv k) ∧ (gi c.vl (k + 1) - gi c.vl k) * (x - gi c.lv k) ≤ 4000000000000) ∧
    (0 ≤ ((gi c.vl (k + 1) - gi c.vl k) * (x - gi c.lv k)).tdiv (gi c.lv (k + 1) - gi c.lv k) ∧ ((gi c.vl (k + 1) - gi c.vl k) * (x - gi c.lv k)).tdiv (gi c.lv (k + 1) - gi c.lv k) ≤ 1000000000) ∧ (0 ≤ gi c.vl k ∧ gi c.vl k ≤ 1000000000) ∧ (0 ≤ vlm c x ∧ vlm c x ≤ 1000000000) ∧ (-2000 ≤ x ∧ x ≤ 2000) := by
  have hk : Knt c x k := by rw [hkd]; exact knt_ok f x
  have h1 := hk.lt
  obtain ⟨s1, s2, s3, s4⟩ := vlm_seg f x h
  rw [← hkd] at s1 s2 s3 s4
  have b1 := f.lb k (by omega)
  have b2 := f.lb (k + 1) (by omega)
  have b3 := f.vb k (by omega)
  have b4 := f.vb (k + 1) (by omega)
  have hl := f.lr k (k + 1) (by omega) (by omega)
  have hv := f.vr k (k + 1) (by omega) (by omega)
  have ht := tdiv_bd (u := gi c.vl (k + 1) - gi c.vl k) (w := x - gi c.lv k) (d := gi c.lv (k + 1) - gi c.lv k) (by omega) (by omega) (by omega) (by omega)
  have hm0 : 0 ≤ (gi c.vl (k + 1) - gi c.vl k) * (x - gi c.lv k) := Int.mul_nonneg (by omega) (by omega)
  have hm1 : (gi c.vl (k + 1) - gi c.vl k) * (x - gi c.lv k) ≤ 1000000000 * 4000 := by
    refine Int.le_trans (Int.mul_le_mul_of_nonneg_right (c := x - gi c.lv k) (show gi c.vl (k + 1) - gi c.vl k ≤ 1000000000 by omega) (by omega)) ?_
    exact Int.mul_le_mul_of_nonneg_left (by omega) (by omega)
  omega
end Go.Proofs.YtneokdflhleidaaDoor

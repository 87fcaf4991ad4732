/- routes along a line: the plain law -/
import Derived.Test.YtilocioajpcoiaaDefO
set_option linter.unusedVariables false
set_option linter.unusedSimpArgs false
namespace Go.Proofs.Ytilocioajpcoiaa
open Go.AG Go.Lib

def mt (ds : List Df) (i : Int) : Int := (gDf ds i.toNat).met
def ab (n : Int) : Int := if n < 0 then -n else n
theorem ab_nn (n : Int) : 0 ≤ ab n := by unfold ab; split <;> omega
theorem ab_tri (a i x : Int) : ab (a - x) ≤ ab (i - x) + ab (a - i) := by unfold ab; split <;> split <;> split <;> omega
/-- the metres of a route from x -/
def rcost (ds : List Df) (x : Int) : List Int → Int
  | [] => 0
  | i :: r => ab (mt ds i - x) + rcost ds (mt ds i) r
def endM (ds : List Df) (x : Int) : List Int → Int
  | [] => x
  | i :: r => endM ds (mt ds i) r
theorem rcost_app (ds : List Df) (x : Int) (p q : List Int) : rcost ds x (p ++ q) = rcost ds x p + rcost ds (endM ds x p) q := by
  induction p generalizing x with
  | nil => simp [rcost, endM]
  | cons i r ih => simp only [List.cons_append, rcost, endM, ih]; omega
theorem endM_app (ds : List Df) (x : Int) (p q : List Int) : endM ds x (p ++ q) = endM ds (endM ds x p) q := by
  induction p generalizing x with
  | nil => rfl
  | cons i r ih => simp only [List.cons_append, endM, ih]
theorem rcost_nn (ds : List Df) (x : Int) (p : List Int) : 0 ≤ rcost ds x p := by
  induction p generalizing x with
  | nil => simp [rcost]
  | cons i r ih => have := ih (mt ds i); have := ab_nn (mt ds i - x); simp only [rcost]; omega
theorem rc_ge1 (ds : List Df) (x a : Int) (r : List Int) (h : a ∈ r) : ab (mt ds a - x) ≤ rcost ds x r := by
  induction r generalizing x with
  | nil => simp at h
  | cons i r ih =>
    simp only [rcost]
    have hn := rcost_nn ds (mt ds i) r
    rcases List.mem_cons.1 h with rfl | h
    · omega
    · have := ih (mt ds i) h
      have := ab_tri (mt ds a) (mt ds i) x
      omega
theorem rc_ge2 (ds : List Df) (x a b : Int) (r : List Int) (ha : a ∈ r) (hb : b ∈ r) : ab (mt ds a - x) + ab (mt ds b - mt ds a) ≤ rcost ds x r ∨ ab (mt ds b - x) + ab (mt ds a - mt ds b) ≤ rcost ds x r := by
  induction r generalizing x with
  | nil => simp at ha
  | cons i r ih =>
    simp only [rcost]
    have hn := rcost_nn ds (mt ds i) r
    rcases List.mem_cons.1 ha with e | ha
    · left
      rw [e]
      rcases List.mem_cons.1 hb with e2 | hb
      · rw [e2]
        have : ab (mt ds i - mt ds i) = 0 := by unfold ab; split <;> omega
        omega
      · have := rc_ge1 ds (mt ds i) b r hb
        omega
    · rcases List.mem_cons.1 hb with e | hb
      · right
        rw [e]
        have := rc_ge1 ds (mt ds i) a r ha
        omega
      · rcases ih (mt ds i) ha hb with h | h
        · left
          have := ab_tri (mt ds a) (mt ds i) x
          omega
        · right
          have := ab_tri (mt ds b) (mt ds i) x
          omega
theorem up_cost (ds : List Df) (x : Int) (ys : List Int) (hp : ys.Pairwise fun a b => mt ds a ≤ mt ds b) (h : ∀ y ∈ ys, x ≤ mt ds y) : rcost ds x ys = endM ds x ys - x ∧ x ≤ endM ds x ys := by
  induction ys generalizing x with
  | nil => simp [rcost, endM]
  | cons i r ih =>
    rw [List.pairwise_cons] at hp
    obtain ⟨h1, h2⟩ := ih (mt ds i) hp.2 (fun y hy => hp.1 y hy)
    have h3 := h i (List.mem_cons_self ..)
    simp only [rcost, endM, h1]
    unfold ab
    split <;> omega
theorem down_cost (ds : List Df) (x : Int) (ys : List Int) (hp : ys.Pairwise fun a b => mt ds b ≤ mt ds a) (h : ∀ y ∈ ys, mt ds y ≤ x) : rcost ds x ys = x - endM ds x ys ∧ endM ds x ys ≤ x := by
  induction ys generalizing x with
  | nil => simp [rcost, endM]
  | cons i r ih =>
    rw [List.pairwise_cons] at hp
    obtain ⟨h1, h2⟩ := ih (mt ds i) hp.2 (fun y hy => hp.1 y hy)
    have h3 := h i (List.mem_cons_self ..)
    simp only [rcost, endM, h1]
    unfold ab
    split <;> omega
theorem endM_mem (ds : List Df) (x : Int) (ys : List Int) (h : ys ≠ []) : ∃ a ∈ ys, endM ds x ys = mt ds a := by
  induction ys generalizing x with
  | nil => exact absurd rfl h
  | cons i r ih =>
    by_cases e : r = []
    · subst e; exact ⟨i, by simp, rfl⟩
    · obtain ⟨a, h1, h2⟩ := ih (mt ds i) e
      exact ⟨a, List.mem_cons_of_mem _ h1, h2⟩
/-- one of the two routes is the least -/
theorem route_min (ds : List Df) (x : Int) (dn up : List Int) (hd : dn.Pairwise fun a b => mt ds b ≤ mt ds a) (hd2 : ∀ y ∈ dn, mt ds y < x) (hu : up.Pairwise fun a b => mt ds a ≤ mt ds b) (hu2 : ∀ y ∈ up, x ≤ mt ds y)
    (o : List Int) (ho : ∀ i, i ∈ dn ∨ i ∈ up → i ∈ o) : rcost ds x (dn ++ up) ≤ rcost ds x o ∨ rcost ds x (up ++ dn) ≤ rcost ds x o := by
  obtain ⟨d1, d2⟩ := down_cost ds x dn hd (fun y hy => by have := hd2 y hy; omega)
  obtain ⟨u1, u2⟩ := up_cost ds x up hu hu2
  obtain ⟨e1, e2⟩ := up_cost ds (endM ds x dn) up hu (fun y hy => by have := hu2 y hy; omega)
  obtain ⟨f1, f2⟩ := down_cost ds (endM ds x up) dn hd (fun y hy => by have := hd2 y hy; omega)
  rw [rcost_app, rcost_app, d1, u1, e1, f1]
  have hon := rcost_nn ds x o
  by_cases hdn : dn = []
  · subst hdn
    by_cases hun : up = []
    · subst hun; simp only [endM] at *; omega
    · obtain ⟨b, hb, eb⟩ := endM_mem ds x up hun
      have := rc_ge1 ds x b o (ho b (.inr hb))
      simp only [endM] at *
      unfold ab at this
      split at this <;> omega
  · obtain ⟨a, ha, ea⟩ := endM_mem ds x dn hdn
    obtain ⟨a', ha', ea'⟩ := endM_mem ds (endM ds x up) dn hdn
    have eaa : endM ds (endM ds x up) dn = endM ds x dn := by
      cases dn with
      | nil => exact absurd rfl hdn
      | cons i r => rfl
    by_cases hun : up = []
    · subst hun
      have := rc_ge1 ds x a o (ho a (.inl ha))
      simp only [endM] at *
      unfold ab at this
      split at this <;> omega
    · obtain ⟨b, hb, eb⟩ := endM_mem ds x up hun
      have ebb : endM ds (endM ds x dn) up = endM ds x up := by
        cases up with
        | nil => exact absurd rfl hun
        | cons i r => rfl
      have h2 := rc_ge2 ds x a b o (ho a (.inl ha)) (ho b (.inr hb))
      rw [eaa, ebb]
      unfold ab at h2
      rcases h2 with h2 | h2
      · left
        split at h2 <;> split at h2 <;> omega
      · right
        split at h2 <;> split at h2 <;> omega
end Go.Proofs.Ytilocioajpcoiaa

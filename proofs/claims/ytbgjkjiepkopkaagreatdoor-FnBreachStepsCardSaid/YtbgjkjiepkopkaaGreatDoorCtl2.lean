/- control of pumps: the model and the valid data -/
import Derived.Test.YtbgjkjiepkopkaaGreatDoorCtl1
import Derived.Test.YtbgjkjiepkopkaaGreatDoorX9
set_option linter.unusedVariables false
set_option linter.unusedSimpArgs false
namespace Go.Proofs.YtbgjkjiepkopkaaGreatDoor
open Go.AG

/-! the level of a volume, and what happens hour by hour -/
open Classical in
noncomputable def lvx (c : Cv) (v : Int) : Int := if h : ∃ x, LvOf c v x then h.choose else 0
theorem lvx_eq {c : Cv} (f : CvF c) {v x : Int} (h : LvOf c v x) : lvx c v = x := by
  have hx : ∃ x, LvOf c v x := ⟨x, h⟩
  rw [lvx, dif_pos hx]
  exact LvOf.uniq f hx.choose_spec h
theorem lvx_bd {c : Cv} (f : CvF c) {v : Int} (hv : v ≤ gi c.vl (c.lv.length - 1)) (h0 : 0 ≤ v): -2000 ≤ lvx c v ∧ lvx c v ≤ 2000 := by
  unfold lvx
  split
  · rename_i h
    have h1 := h.choose_spec.lo
    have h2 := h.choose_spec.hi
    have := f.lohi
    omega
  · omega
def rnW (w : Sw) (lev : Int) (run : Bool) : Bool := if run = true then decide (w.off < lev) else decide (w.on ≤ lev)
structure Cs where
  vol : Int
  run : Bool
  hs : List Hr
def voN (rate vol q : Int) (run : Bool) : Int := if run = true then (if vol + q - rate < 0 then 0 else vol + q - rate) else vol + q
noncomputable def stpC (c : Cv) (w : Sw) (rate : Int) (s : Cs) (q : Int) : Option Cs :=
  let run := rnW w (lvx c s.vol) s.run
  let vol := voN rate s.vol q run
  if gi c.vl (c.lv.length - 1) < vol then none else some ⟨vol, run, s.hs ++ [⟨lvx c vol, run⟩]⟩
noncomputable def rnK (c : Cv) (w : Sw) (vol rate : Int) (xs : List Int) : Nat → Option Cs
  | 0 => some ⟨vol, false, []⟩
  | k + 1 => (rnK c w vol rate xs k).bind fun s => stpC c w rate s (gi xs k)
theorem rnK_none {c : Cv} {w : Sw} {vol rate : Int} {xs : List Int} {k m : Nat} (h : rnK c w vol rate xs k = none) (hk : k ≤ m) : rnK c w vol rate xs m = none := by
  induction m with
  | zero => rw [← h, show k = 0 by omega]
  | succ m ih =>
    by_cases e : k = m + 1
    · rw [← e]; exact h
    · rw [rnK, ih (by omega)]; rfl
noncomputable def rnA (c : Cv) (w : Sw) (vol rate : Int) (xs : List Int) : Option Cs := rnK c w vol rate xs xs.length
noncomputable def rnH (c : Cv) (w : Sw) (vol rate : Int) (xs : List Int) : List Hr := match rnA c w vol rate xs with | none => [] | some s => s.hs
noncomputable def rnO (c : Cv) (w : Sw) (vol rate : Int) (xs : List Int) : Bool := (rnA c w vol rate xs).isSome
/-- what is asked of the numbers -/
structure CtF (c : Cv) (vol rate : Int) (xs : List Int) : Prop where
  f : CvF c
  v : 0 ≤ vol ∧ vol ≤ gi c.vl (c.lv.length - 1)
  r : 0 ≤ rate ∧ rate ≤ 1000000
  x : ∀ y ∈ xs, 0 ≤ y ∧ y ≤ 1000000
  n : xs.length ≤ 200
theorem CtF.q {c : Cv} {vol rate : Int} {xs : List Int} (h : CtF c vol rate xs) (k : Nat) (hk : k < xs.length) : 0 ≤ gi xs k ∧ gi xs k ≤ 1000000 := h.x _ (gi_mem xs k hk)
theorem rnK_bd {c : Cv} {w : Sw} {vol rate : Int} {xs : List Int} (h : CtF c vol rate xs) (k : Nat) (hk : k ≤ xs.length) (s : Cs) (hs : rnK c w vol rate xs k = some s) :
    (0 ≤ s.vol ∧ s.vol ≤ gi c.vl (c.lv.length - 1)) ∧ s.hs.length = k ∧ ∀ y ∈ s.hs, -2000 ≤ y.lv ∧ y.lv ≤ 2000 := by
  induction k generalizing s with
  | zero => rw [rnK] at hs; cases hs; exact ⟨h.v, rfl, by simp⟩
  | succ k ih =>
    rw [rnK] at hs
    cases h1 : rnK c w vol rate xs k with
    | none => rw [h1] at hs; exact absurd hs (by simp)
    | some t =>
      rw [h1] at hs
      obtain ⟨i1, i2, i3⟩ := ih (by omega) t h1
      have hq := h.q k (by omega)
      have hr := h.r
      simp only [Option.bind_some, stpC] at hs
      split at hs
      · exact absurd hs (by simp)
      · rename_i h2
        cases hs
        have h0 : 0 ≤ voN rate t.vol (gi xs k) (rnW w (lvx c t.vol) t.run) := by unfold voN; split <;> (try split) <;> omega
        refine ⟨⟨h0, by simp only; omega⟩, by simp [i2], ?_⟩
        intro y hy
        rcases List.mem_append.1 hy with hy | hy
        · exact i3 y hy
        · rw [List.mem_singleton.1 hy]; exact lvx_bd h.f (by omega) h0
/-! the valid switches -/
def okW (w : Sw) : Bool := decide (-2000 ≤ w.on ∧ w.on ≤ 2000) && (decide (-2000 ≤ w.off ∧ w.off ≤ 2000) && decide (w.off < w.on))
theorem Sw.dr.ok {w : Sw} (h : w.dr) : okW w = true := by
  unfold Sw.dr at h
  simp only [okW, Bool.and_eq_true, decide_eq_true_eq]
  omega
theorem valLev_ok (n : Int) : ACalls Tryz.prog 27 [I n] [] (fun r o => r = B (decide (-2000 ≤ n ∧ n ≤ 2000)) ∧ o = []) := by
  refine ACalls.of_vc Tryz.func27 rfl (by decide) 5 rfl [.tmp 2] rfl (by simp) ?_
  (repeat (first | simp (maxSteps := 2000000) (disch := omega) only [go_sem, ↓reduceIte, Nat.reduceEqDiff, Nat.reduceAdd, Nat.reduceMul, Nat.reduceSub, Int.reduceToNat, Int.reduceAdd, Int.reduceSub, Int.reduceMul, Int.reduceNeg] | with_reducible refine vIf_t ?_ | with_reducible refine vIf_f ?_))
  (refine vCallX_of ?_; (repeat (first | simp (maxSteps := 2000000) (disch := omega) only [go_sem, ↓reduceIte, Nat.reduceEqDiff, Nat.reduceAdd, Nat.reduceMul, Nat.reduceSub, Int.reduceToNat, Int.reduceAdd, Int.reduceSub, Int.reduceMul, Int.reduceNeg] | with_reducible refine vIf_t ?_ | with_reducible refine vIf_f ?_)); refine vCall_eq (in_ok n (-2000) 2000) (by simp (disch := omega) only [go_sem, Nat.reduceAdd]) rfl (by first | exact Or.inl rfl | exact Or.inr ⟨rfl, rfl⟩ | (apply Or.inr; simp only [go_sem])) ?_; (repeat (first | simp (maxSteps := 2000000) (disch := omega) only [go_sem, ↓reduceIte, Nat.reduceEqDiff, Nat.reduceAdd, Nat.reduceMul, Nat.reduceSub, Int.reduceToNat, Int.reduceAdd, Int.reduceSub, Int.reduceMul, Int.reduceNeg] | with_reducible refine vIf_t ?_ | with_reducible refine vIf_f ?_)))
  (refine retK_of ?_; (repeat (first | simp (maxSteps := 2000000) (disch := omega) only [go_sem, ↓reduceIte, Nat.reduceEqDiff, Nat.reduceAdd, Nat.reduceMul, Nat.reduceSub, Int.reduceToNat, Int.reduceAdd, Int.reduceSub, Int.reduceMul, Int.reduceNeg] | with_reducible refine vIf_t ?_ | with_reducible refine vIf_f ?_)))
theorem allSw_snoc (q : Sw → Bool) (xs : List Sw) (k : Nat) (h : k < xs.length) (he : (xs.take k).all q = true) (hq : q (gSw xs k) = true) : (xs.take (k + 1)).all q = true := by
  rw [gSw_take_succ xs k h, List.all_append, he]; simp [hq]
theorem allSw_no (q : Sw → Bool) (xs : List Sw) (k : Nat) (h : k < xs.length) (hq : q (gSw xs k) = false) : xs.all q = false := by
  rw [List.all_eq_false]
  exact ⟨gSw xs k, gSw_mem xs k h, by simp [hq]⟩
end Go.Proofs.YtbgjkjiepkopkaaGreatDoor

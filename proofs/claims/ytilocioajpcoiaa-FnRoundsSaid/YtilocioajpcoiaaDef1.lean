/- defects: valid, their order, adding -/
import Derived.Test.YtilocioajpcoiaaSrc2
import Derived.Test.YtilocioajpcoiaaX3
import Derived.Test.YtilocioajpcoiaaX2
import Derived.Test.YtilocioajpcoiaaIxs
set_option linter.unusedVariables false
set_option linter.unusedSimpArgs false
namespace Go.Proofs.Ytilocioajpcoiaa
open Go.AG

attribute [local go_sem] beq_self_eq_true bne_self_eq_false Bool.not_true
structure Df where
  met : Int
  kind : Int
  found : Int
  mended : Int
  deriving Inhabited, DecidableEq
def Df.cells (d : Df) : List V := [.sc (.int .i64 d.met), .sc (.int .i64 d.kind), .sc (.int .i64 d.found), .sc (.int .i64 d.mended)]
def cDf (ds : List Df) : List V := ds.flatMap Df.cells
def gDf (ds : List Df) (i : Nat) : Df := ds.getD i default
theorem gDf_lt (ds : List Df) (i : Nat) (h : i < ds.length) : gDf ds i = ds[i] := by simp [gDf, h]
theorem gDf_mem (ds : List Df) (i : Nat) (h : i < ds.length) : gDf ds i ∈ ds := by rw [gDf_lt ds i h]; exact List.getElem_mem h
theorem gDf_take_succ (ds : List Df) (i : Nat) (h : i < ds.length) : ds.take (i + 1) = ds.take i ++ [gDf ds i] := by rw [List.take_succ_eq_append_getElem h, gDf_lt ds i h]
theorem gDf_set_same (ds : List Df) (i : Nat) (d : Df) (h : i < ds.length) : gDf (ds.set i d) i = d := by simp [gDf, h]
theorem gDf_set_ne (ds : List Df) (i j : Nat) (d : Df) (h : i ≠ j) : gDf (ds.set i d) j = gDf ds j := by simp [gDf, h]
theorem gDf_app_l (xs ys : List Df) (i : Nat) (h : i < xs.length) : gDf (xs ++ ys) i = gDf xs i := by simp [gDf, List.getElem?_append_left h]
theorem gDf_app_r (xs ys : List Df) (i : Nat) (h : xs.length ≤ i) : gDf (xs ++ ys) i = gDf ys (i - xs.length) := by simp [gDf, List.getElem?_append_right h]
theorem cDf_eq (ds : List Df) : cDf ds = (ds.map Df.cells).flatten := by rw [cDf, List.flatMap_def]
@[go_sem] theorem length_cDf (ds : List Df) : (cDf ds).length = ds.length * 4 := (rsLen Df.cells 4 (fun _ => rfl) ds)
@[go_sem] theorem cDf_nil : cDf [] = [] := rfl
@[go_sem] theorem cDf_append (xs ys : List Df) : cDf xs ++ cDf ys = cDf (xs ++ ys) := by simp [cDf]
theorem cDf_one (d : Df) : cDf [d] = d.cells := by simp [cDf]
@[go_sem] theorem cDf_snoc (xs : List Df) (met : Int) (kind : Int) (found : Int) (mended : Int) : cDf xs ++ [.sc (.int .i64 met), .sc (.int .i64 kind), .sc (.int .i64 found), .sc (.int .i64 mended)] = cDf (xs ++ [⟨met, kind, found, mended⟩]) := by simp [cDf, Df.cells]
@[go_sem] theorem cDf_take (ds : List Df) (n : Nat) : (cDf ds).take (n * 4) = cDf (ds.take n) := rsTake Df.cells 4 (fun _ => rfl) ds n
@[go_sem] theorem cDf_take_all (ds : List Df) (n : Nat) (h : ds.length * 4 ≤ n) : (cDf ds).take n = cDf ds := List.take_of_length_le (by rw [length_cDf]; exact h)
@[go_sem] theorem cDf_drop (ds : List Df) (n : Nat) : (cDf ds).drop (n * 4) = cDf (ds.drop n) := rsDrop Df.cells 4 (fun _ => rfl) ds n
@[go_sem high] theorem vPart_cDf (ds : List Df) (i : Nat) (K : V → Prop) : vPart true 4 (cDf ds) (i * 4) K = grd (i < ds.length) (K (.agg [.sc (.int .i64 (gDf ds i).met), .sc (.int .i64 (gDf ds i).kind), .sc (.int .i64 (gDf ds i).found), .sc (.int .i64 (gDf ds i).mended)])) := rsPart Df.cells 4 (fun _ => rfl) (by omega) ds i K
@[go_sem] theorem cDf_at (ds : List Df) (n : Nat) (h : n < ds.length) : (cDf (ds.drop n)).take 4 = [.sc (.int .i64 (gDf ds n).met), .sc (.int .i64 (gDf ds n).kind), .sc (.int .i64 (gDf ds n).found), .sc (.int .i64 (gDf ds n).mended)] := by rw [List.drop_eq_getElem_cons h, gDf_lt ds n h]; rfl
@[go_sem] theorem cDf_at0 (ds : List Df) (h : 0 < ds.length) : (cDf ds).take 4 = [.sc (.int .i64 (gDf ds 0).met), .sc (.int .i64 (gDf ds 0).kind), .sc (.int .i64 (gDf ds 0).found), .sc (.int .i64 (gDf ds 0).mended)] := by cases ds with | nil => simp at h | cons x r => rfl
@[go_sem] theorem vAt_cDf_0 (ds : List Df) (i : Nat) (K : V → Prop) : vAt (cDf ds) (i * 4) K = grd (i < ds.length) (K (.sc (.int .i64 (gDf ds i).met))) := rsAt Df.cells 4 (fun _ => rfl) ds i 0 (by omega) (fun d => .sc (.int .i64 d.met)) (fun _ => rfl) K
@[go_sem] theorem wr_cDf_0 (ds : List Df) (i : Nat) (x : Int) (h : i < ds.length) : wr (cDf ds) (i * 4) [.sc (.int .i64 x)] = cDf (ds.set i {gDf ds i with met := x}) := rsWr Df.cells 4 (fun _ => rfl) ds i 0 (by omega) h _ _ rfl
@[go_sem] theorem vAt_cDf_1 (ds : List Df) (i : Nat) (K : V → Prop) : vAt (cDf ds) (i * 4 + 1) K = grd (i < ds.length) (K (.sc (.int .i64 (gDf ds i).kind))) := rsAt Df.cells 4 (fun _ => rfl) ds i 1 (by omega) (fun d => .sc (.int .i64 d.kind)) (fun _ => rfl) K
@[go_sem] theorem wr_cDf_1 (ds : List Df) (i : Nat) (x : Int) (h : i < ds.length) : wr (cDf ds) (i * 4 + 1) [.sc (.int .i64 x)] = cDf (ds.set i {gDf ds i with kind := x}) := rsWr Df.cells 4 (fun _ => rfl) ds i 1 (by omega) h _ _ rfl
@[go_sem] theorem vAt_cDf_2 (ds : List Df) (i : Nat) (K : V → Prop) : vAt (cDf ds) (i * 4 + 2) K = grd (i < ds.length) (K (.sc (.int .i64 (gDf ds i).found))) := rsAt Df.cells 4 (fun _ => rfl) ds i 2 (by omega) (fun d => .sc (.int .i64 d.found)) (fun _ => rfl) K
@[go_sem] theorem wr_cDf_2 (ds : List Df) (i : Nat) (x : Int) (h : i < ds.length) : wr (cDf ds) (i * 4 + 2) [.sc (.int .i64 x)] = cDf (ds.set i {gDf ds i with found := x}) := rsWr Df.cells 4 (fun _ => rfl) ds i 2 (by omega) h _ _ rfl
@[go_sem] theorem vAt_cDf_3 (ds : List Df) (i : Nat) (K : V → Prop) : vAt (cDf ds) (i * 4 + 3) K = grd (i < ds.length) (K (.sc (.int .i64 (gDf ds i).mended))) := rsAt Df.cells 4 (fun _ => rfl) ds i 3 (by omega) (fun d => .sc (.int .i64 d.mended)) (fun _ => rfl) K
@[go_sem] theorem wr_cDf_3 (ds : List Df) (i : Nat) (x : Int) (h : i < ds.length) : wr (cDf ds) (i * 4 + 3) [.sc (.int .i64 x)] = cDf (ds.set i {gDf ds i with mended := x}) := rsWr Df.cells 4 (fun _ => rfl) ds i 3 (by omega) h _ _ rfl
@[go_sem] theorem wr_cDf_0_set (ds : List Df) (i i0 : Nat) (d : Df) (x : Int) (h : i < ds.length) : wr (cDf (ds.set i0 d)) (i * 4) [.sc (.int .i64 x)] = cDf ((ds.set i0 d).set i {gDf (ds.set i0 d) i with met := x}) := wr_cDf_0 _ _ _ (by rw [List.length_set]; exact h)
@[go_sem] theorem wr_cDf_1_set (ds : List Df) (i i0 : Nat) (d : Df) (x : Int) (h : i < ds.length) : wr (cDf (ds.set i0 d)) (i * 4 + 1) [.sc (.int .i64 x)] = cDf ((ds.set i0 d).set i {gDf (ds.set i0 d) i with kind := x}) := wr_cDf_1 _ _ _ (by rw [List.length_set]; exact h)
@[go_sem] theorem wr_cDf_2_set (ds : List Df) (i i0 : Nat) (d : Df) (x : Int) (h : i < ds.length) : wr (cDf (ds.set i0 d)) (i * 4 + 2) [.sc (.int .i64 x)] = cDf ((ds.set i0 d).set i {gDf (ds.set i0 d) i with found := x}) := wr_cDf_2 _ _ _ (by rw [List.length_set]; exact h)
@[go_sem] theorem wr_cDf_3_set (ds : List Df) (i i0 : Nat) (d : Df) (x : Int) (h : i < ds.length) : wr (cDf (ds.set i0 d)) (i * 4 + 3) [.sc (.int .i64 x)] = cDf ((ds.set i0 d).set i {gDf (ds.set i0 d) i with mended := x}) := wr_cDf_3 _ _ _ (by rw [List.length_set]; exact h)
attribute [go_sem] gDf_set_same
@[go_sem] theorem wr_cDf_all (ds : List Df) (i : Nat) (met : Int) (kind : Int) (found : Int) (mended : Int) (h : i < ds.length) : wr (cDf ds) (i * 4) [.sc (.int .i64 met), .sc (.int .i64 kind), .sc (.int .i64 found), .sc (.int .i64 mended)] = cDf (ds.set i ⟨met, kind, found, mended⟩) := rsWrAll Df.cells 4 (fun _ => rfl) ds i h ⟨met, kind, found, mended⟩
@[go_sem] theorem imm_cDf (ds : List Df) : V.immL (cDf ds) = true := by induction ds with | nil => rfl | cons x xs ih => exact ih
@[go_sem] theorem one_cDf (ds : List Df) : V.oneL (cDf ds) = true := by induction ds with | nil => rfl | cons x xs ih => exact ih
@[go_sem] theorem noref_cDf (ds : List Df) : V.norefL (cDf ds) = true := by induction ds with | nil => rfl | cons x xs ih => exact ih
@[go_sem] theorem flat_cDf (ds : List Df) : V.flatL (cDf ds) = true := by induction ds with | nil => rfl | cons x xs ih => exact ih
@[go_sem] theorem kill_cDf (p : Nat → Bool) (ds : List Df) : V.killL p (cDf ds) = cDf ds := killL_noref p _ (noref_cDf ds)
@[go_sem] theorem frz_cDf (f : Nat → Option Ob) (ds : List Df) : V.frzL f (cDf ds) = cDf ds := frzL_noref f _ (noref_cDf ds)
@[go_sem] theorem ren_cDf (g : Nat → Nat) (ds : List Df) : V.renL g (cDf ds) = cDf ds := by induction ds with | nil => rfl | cons x xs ih => exact congrArg (x.cells ++ ·) ih
@[go_sem] theorem reps_cDf (n : Nat) : reps n [V.sc (.int .i64 0), V.sc (.int .i64 0), V.sc (.int .i64 0), V.sc (.int .i64 0)] = cDf (List.replicate n ⟨0, 0, 0, 0⟩) := rsReps Df.cells n ⟨0, 0, 0, 0⟩
@[go_sem] theorem map_cDf_inj (xs ys : List Df) : (cDf xs = cDf ys) = (xs = ys) := propext ⟨rsInj Df.cells 4 (fun _ => rfl) (by omega) (fun a b h => by cases a; cases b; simpa [Df.cells] using h) xs ys, fun h => by rw [h]⟩
@[go_sem] theorem cDf_rep0 (d : Df) : cDf (List.replicate 0 d) = [] := rfl
@[go_sem] theorem wr_cDf_rep1 (d : Df) (met : Int) (kind : Int) (found : Int) (mended : Int) : wr (cDf (List.replicate 1 d)) 0 [.sc (.int .i64 met), .sc (.int .i64 kind), .sc (.int .i64 found), .sc (.int .i64 mended)] = cDf [⟨met, kind, found, mended⟩] := rfl
@[go_sem] theorem cDf_take1 (d : Df) : (cDf [d]).take 4 = cDf [d] := rfl
structure OkD (d : Df) : Prop where
  m : 0 ≤ d.met ∧ d.met ≤ 300000
  k : 1 ≤ d.kind ∧ d.kind ≤ 5
  f : 1 ≤ d.found ∧ d.found ≤ 100000
  e : d.mended = 0 ∨ (d.found ≤ d.mended ∧ d.mended ≤ 100000)
/-- the order of defects -/
def DLt (a b : Df) : Prop := a.found < b.found ∨ (a.found = b.found ∧ (a.met < b.met ∨ (a.met = b.met ∧ a.kind < b.kind)))
instance (a b : Df) : Decidable (DLt a b) := by unfold DLt; infer_instance
structure DfX (ds : List Df) : Prop where
  n : ds.length ≤ 60
  e : ∀ i, i < ds.length → OkD (gDf ds i)
  s : ∀ i, i + 1 < ds.length → DLt (gDf ds i) (gDf ds (i + 1))
/-- a defect put at its place -/
def insD (ds : List Df) (k : Nat) (d : Df) : List Df := ds.take k ++ [d] ++ ds.drop k
theorem insD_len (ds : List Df) (k : Nat) (d : Df) (h : k ≤ ds.length) : (insD ds k d).length = ds.length + 1 := by simp [insD]; omega
theorem insD_get (ds : List Df) (k : Nat) (d : Df) (h : k ≤ ds.length) (i : Nat) : gDf (insD ds k d) i = if i < k then gDf ds i else if i = k then d else gDf ds (i - 1) := by
  have hl : (ds.take k).length = k := by simp; omega
  unfold insD gDf
  rw [List.append_assoc]
  by_cases h1 : i < k
  · rw [if_pos h1]
    simp [List.getD, List.getElem?_append_left (show i < (ds.take k).length by omega), h1]
  · rw [if_neg h1]
    simp only [List.getD]
    rw [List.getElem?_append_right (by omega), hl]
    by_cases h2 : i = k
    · subst h2; simp
    · rw [if_neg h2, show i - k = (i - 1 - k) + 1 by omega]
      simp [List.getElem?_drop, show k + (i - 1 - k) = i - 1 by omega]
theorem DfX.ins {ds : List Df} (X : DfX ds) (hn : ds.length < 60) {d : Df} (hd : OkD d) {k : Nat} (hk : k ≤ ds.length) (h1 : 0 < k → DLt (gDf ds (k - 1)) d) (h2 : k < ds.length → DLt d (gDf ds k)) : DfX (insD ds k d) := by
  have hl := insD_len ds k d hk
  refine ⟨by omega, fun i hi => ?_, fun i hi => ?_⟩
  · rw [insD_get ds k d hk]
    split
    · exact X.e i (by omega)
    · split
      · exact hd
      · exact X.e (i - 1) (by omega)
  · rw [insD_get ds k d hk, insD_get ds k d hk]
    rcases Nat.lt_trichotomy (i + 1) k with h | h | h
    · rw [if_pos (by omega), if_pos h]; exact X.s i (by omega)
    · rw [if_pos (by omega), if_neg (by omega), if_pos h]
      have := h1 (by omega)
      rwa [show k - 1 = i by omega] at this
    · by_cases e : i = k
      · rw [if_neg (show ¬ i < k by omega), if_pos e, if_neg (show ¬ i + 1 < k by omega), if_neg (show ¬ i + 1 = k by omega)]
        have := h2 (by omega)
        rwa [show i + 1 - 1 = k by omega]
      · rw [if_neg (show ¬ i < k by omega), if_neg e, if_neg (show ¬ i + 1 < k by omega), if_neg (show ¬ i + 1 = k by omega)]
        have := X.s (i - 1) (by omega)
        rwa [show i - 1 + 1 = i + 1 - 1 by omega] at this
theorem isMetre_ok (n : Int) : ACalls Try.prog 69 [I n] [] (fun r o => r = B (decide (0 ≤ n ∧ n ≤ 300000)) ∧ o = []) := by
  refine ACalls.of_vc Try.func69 rfl (by decide) 5 rfl [.tmp 2] rfl (by simp) ?_
  (repeat (first | simp (maxSteps := 2000000) (disch := omega) only [go_sem, ↓reduceIte, Nat.reduceEqDiff, Nat.reduceAdd, Nat.reduceMul, Nat.reduceSub, Int.reduceToNat, Int.reduceAdd, Int.reduceSub, Int.reduceMul, Int.reduceNeg] | with_reducible refine vIf_t ?_ | with_reducible refine vIf_f ?_))
  (refine vCallX_of ?_; (repeat (first | simp (maxSteps := 2000000) (disch := omega) only [go_sem, ↓reduceIte, Nat.reduceEqDiff, Nat.reduceAdd, Nat.reduceMul, Nat.reduceSub, Int.reduceToNat, Int.reduceAdd, Int.reduceSub, Int.reduceMul, Int.reduceNeg] | with_reducible refine vIf_t ?_ | with_reducible refine vIf_f ?_)); refine vCall_eq (in_ok n 0 300000) (by simp (disch := omega) only [go_sem, Nat.reduceAdd]) rfl (by first | exact Or.inl rfl | exact Or.inr ⟨rfl, rfl⟩ | (apply Or.inr; simp only [go_sem])) ?_; (repeat (first | simp (maxSteps := 2000000) (disch := omega) only [go_sem, ↓reduceIte, Nat.reduceEqDiff, Nat.reduceAdd, Nat.reduceMul, Nat.reduceSub, Int.reduceToNat, Int.reduceAdd, Int.reduceSub, Int.reduceMul, Int.reduceNeg] | with_reducible refine vIf_t ?_ | with_reducible refine vIf_f ?_)))
  (refine retK_of ?_; (repeat (first | simp (maxSteps := 2000000) (disch := omega) only [go_sem, ↓reduceIte, Nat.reduceEqDiff, Nat.reduceAdd, Nat.reduceMul, Nat.reduceSub, Int.reduceToNat, Int.reduceAdd, Int.reduceSub, Int.reduceMul, Int.reduceNeg] | with_reducible refine vIf_t ?_ | with_reducible refine vIf_f ?_)))
theorem valDay_ok (n : Int) : ACalls Try.prog 43 [I n] [] (fun r o => r = B (decide (0 ≤ n ∧ n ≤ 100000)) ∧ o = []) := by
  refine ACalls.of_vc Try.func43 rfl (by decide) 5 rfl [.tmp 2] rfl (by simp) ?_
  (repeat (first | simp (maxSteps := 2000000) (disch := omega) only [go_sem, ↓reduceIte, Nat.reduceEqDiff, Nat.reduceAdd, Nat.reduceMul, Nat.reduceSub, Int.reduceToNat, Int.reduceAdd, Int.reduceSub, Int.reduceMul, Int.reduceNeg] | with_reducible refine vIf_t ?_ | with_reducible refine vIf_f ?_))
  (refine vCallX_of ?_; (repeat (first | simp (maxSteps := 2000000) (disch := omega) only [go_sem, ↓reduceIte, Nat.reduceEqDiff, Nat.reduceAdd, Nat.reduceMul, Nat.reduceSub, Int.reduceToNat, Int.reduceAdd, Int.reduceSub, Int.reduceMul, Int.reduceNeg] | with_reducible refine vIf_t ?_ | with_reducible refine vIf_f ?_)); refine vCall_eq (in_ok n 0 100000) (by simp (disch := omega) only [go_sem, Nat.reduceAdd]) rfl (by first | exact Or.inl rfl | exact Or.inr ⟨rfl, rfl⟩ | (apply Or.inr; simp only [go_sem])) ?_; (repeat (first | simp (maxSteps := 2000000) (disch := omega) only [go_sem, ↓reduceIte, Nat.reduceEqDiff, Nat.reduceAdd, Nat.reduceMul, Nat.reduceSub, Int.reduceToNat, Int.reduceAdd, Int.reduceSub, Int.reduceMul, Int.reduceNeg] | with_reducible refine vIf_t ?_ | with_reducible refine vIf_f ?_)))
  (refine retK_of ?_; (repeat (first | simp (maxSteps := 2000000) (disch := omega) only [go_sem, ↓reduceIte, Nat.reduceEqDiff, Nat.reduceAdd, Nat.reduceMul, Nat.reduceSub, Int.reduceToNat, Int.reduceAdd, Int.reduceSub, Int.reduceMul, Int.reduceNeg] | with_reducible refine vIf_t ?_ | with_reducible refine vIf_f ?_)))
theorem isDate_ok (n : Int) (h : 1 ≤ n ∧ n ≤ 100000) : ACalls Try.prog 102 [I n] [] (fun r o => r = B true ∧ o = []) := by
  refine ACalls.of_vc Try.func102 rfl (by decide) 9 rfl [.tmp 2] rfl (by simp) ?_
  have h1 := valDay_ok n
  rw [decide_eq_true (by omega)] at h1
  have c1 : decide (1 ≤ n) = true := decide_eq_true (by omega)
  (repeat (first | simp (maxSteps := 2000000) (disch := omega) only [go_sem, ↓reduceIte, Nat.reduceEqDiff, Nat.reduceAdd, Nat.reduceMul, Nat.reduceSub, Int.reduceToNat, Int.reduceAdd, Int.reduceSub, Int.reduceMul, Int.reduceNeg] | with_reducible refine vIf_t ?_ | with_reducible refine vIf_f ?_))
  (refine vCallX_of ?_; (repeat (first | simp (maxSteps := 2000000) (disch := omega) only [go_sem, ↓reduceIte, Nat.reduceEqDiff, Nat.reduceAdd, Nat.reduceMul, Nat.reduceSub, Int.reduceToNat, Int.reduceAdd, Int.reduceSub, Int.reduceMul, Int.reduceNeg] | with_reducible refine vIf_t ?_ | with_reducible refine vIf_f ?_)); refine vCall_eq (h1) (by simp (disch := omega) only [go_sem, Nat.reduceAdd]) rfl (by first | exact Or.inl rfl | exact Or.inr ⟨rfl, rfl⟩ | (apply Or.inr; simp only [go_sem])) ?_; (repeat (first | simp (maxSteps := 2000000) (disch := omega) only [go_sem, ↓reduceIte, Nat.reduceEqDiff, Nat.reduceAdd, Nat.reduceMul, Nat.reduceSub, Int.reduceToNat, Int.reduceAdd, Int.reduceSub, Int.reduceMul, Int.reduceNeg] | with_reducible refine vIf_t ?_ | with_reducible refine vIf_f ?_)))
  (try (repeat (first | simp (maxSteps := 2000000) (disch := omega) only [go_sem, ↓reduceIte, Nat.reduceEqDiff, Nat.reduceAdd, Nat.reduceMul, Nat.reduceSub, Int.reduceToNat, Int.reduceAdd, Int.reduceSub, Int.reduceMul, Int.reduceNeg, c1] | with_reducible refine vIf_t ?_ | with_reducible refine vIf_f ?_)))
  (refine retK_of ?_; (repeat (first | simp (maxSteps := 2000000) (disch := omega) only [go_sem, ↓reduceIte, Nat.reduceEqDiff, Nat.reduceAdd, Nat.reduceMul, Nat.reduceSub, Int.reduceToNat, Int.reduceAdd, Int.reduceSub, Int.reduceMul, Int.reduceNeg] | with_reducible refine vIf_t ?_ | with_reducible refine vIf_f ?_)))
theorem isDefect_ok (d : Df) (h : OkD d) : ACalls Try.prog 108 [.agg d.cells] [] (fun r o => r = B true ∧ o = []) := by
  refine ACalls.of_vc Try.func108 rfl (by decide) 33 rfl [.tmp 2] rfl (by simp) ?_
  obtain ⟨h1, h2, h3, h4⟩ := h
  have e1 := isMetre_ok d.met
  have e2 := in_ok d.kind 1 5
  have e3 := isDate_ok d.found h3
  have e4 := valDay_ok d.mended
  rw [decide_eq_true h1] at e1
  rw [decide_eq_true h2] at e2
  unfold Df.cells
  by_cases hm : d.mended = 0
  · have c0 : (d.mended == 0) = true := by simpa using hm
    (repeat (first | simp (maxSteps := 2000000) (disch := omega) only [go_sem, ↓reduceIte, Nat.reduceEqDiff, Nat.reduceAdd, Nat.reduceMul, Nat.reduceSub, Int.reduceToNat, Int.reduceAdd, Int.reduceSub, Int.reduceMul, Int.reduceNeg] | with_reducible refine vIf_t ?_ | with_reducible refine vIf_f ?_))
    (refine vCallX_of ?_; (repeat (first | simp (maxSteps := 2000000) (disch := omega) only [go_sem, ↓reduceIte, Nat.reduceEqDiff, Nat.reduceAdd, Nat.reduceMul, Nat.reduceSub, Int.reduceToNat, Int.reduceAdd, Int.reduceSub, Int.reduceMul, Int.reduceNeg] | with_reducible refine vIf_t ?_ | with_reducible refine vIf_f ?_)); refine vCall_eq (e1) (by simp (disch := omega) only [go_sem, Nat.reduceAdd]) rfl (by first | exact Or.inl rfl | exact Or.inr ⟨rfl, rfl⟩ | (apply Or.inr; simp only [go_sem])) ?_; (repeat (first | simp (maxSteps := 2000000) (disch := omega) only [go_sem, ↓reduceIte, Nat.reduceEqDiff, Nat.reduceAdd, Nat.reduceMul, Nat.reduceSub, Int.reduceToNat, Int.reduceAdd, Int.reduceSub, Int.reduceMul, Int.reduceNeg] | with_reducible refine vIf_t ?_ | with_reducible refine vIf_f ?_)))
    (refine vCallX_of ?_; (repeat (first | simp (maxSteps := 2000000) (disch := omega) only [go_sem, ↓reduceIte, Nat.reduceEqDiff, Nat.reduceAdd, Nat.reduceMul, Nat.reduceSub, Int.reduceToNat, Int.reduceAdd, Int.reduceSub, Int.reduceMul, Int.reduceNeg] | with_reducible refine vIf_t ?_ | with_reducible refine vIf_f ?_)); refine vCall_eq (e2) (by simp (disch := omega) only [go_sem, Nat.reduceAdd]) rfl (by first | exact Or.inl rfl | exact Or.inr ⟨rfl, rfl⟩ | (apply Or.inr; simp only [go_sem])) ?_; (repeat (first | simp (maxSteps := 2000000) (disch := omega) only [go_sem, ↓reduceIte, Nat.reduceEqDiff, Nat.reduceAdd, Nat.reduceMul, Nat.reduceSub, Int.reduceToNat, Int.reduceAdd, Int.reduceSub, Int.reduceMul, Int.reduceNeg] | with_reducible refine vIf_t ?_ | with_reducible refine vIf_f ?_)))
    (refine vCallX_of ?_; (repeat (first | simp (maxSteps := 2000000) (disch := omega) only [go_sem, ↓reduceIte, Nat.reduceEqDiff, Nat.reduceAdd, Nat.reduceMul, Nat.reduceSub, Int.reduceToNat, Int.reduceAdd, Int.reduceSub, Int.reduceMul, Int.reduceNeg] | with_reducible refine vIf_t ?_ | with_reducible refine vIf_f ?_)); refine vCall_eq (e3) (by simp (disch := omega) only [go_sem, Nat.reduceAdd]) rfl (by first | exact Or.inl rfl | exact Or.inr ⟨rfl, rfl⟩ | (apply Or.inr; simp only [go_sem])) ?_; (repeat (first | simp (maxSteps := 2000000) (disch := omega) only [go_sem, ↓reduceIte, Nat.reduceEqDiff, Nat.reduceAdd, Nat.reduceMul, Nat.reduceSub, Int.reduceToNat, Int.reduceAdd, Int.reduceSub, Int.reduceMul, Int.reduceNeg] | with_reducible refine vIf_t ?_ | with_reducible refine vIf_f ?_)))
    (try (repeat (first | simp (maxSteps := 2000000) (disch := omega) only [go_sem, ↓reduceIte, Nat.reduceEqDiff, Nat.reduceAdd, Nat.reduceMul, Nat.reduceSub, Int.reduceToNat, Int.reduceAdd, Int.reduceSub, Int.reduceMul, Int.reduceNeg, c0] | with_reducible refine vIf_t ?_ | with_reducible refine vIf_f ?_)))
    (refine retK_of ?_; (repeat (first | simp (maxSteps := 2000000) (disch := omega) only [go_sem, ↓reduceIte, Nat.reduceEqDiff, Nat.reduceAdd, Nat.reduceMul, Nat.reduceSub, Int.reduceToNat, Int.reduceAdd, Int.reduceSub, Int.reduceMul, Int.reduceNeg] | with_reducible refine vIf_t ?_ | with_reducible refine vIf_f ?_)))
  · have c0 : (d.mended == 0) = false := by simpa using hm
    have c1 : decide (d.found ≤ d.mended) = true := decide_eq_true (by omega)
    rw [decide_eq_true (by omega)] at e4
    (repeat (first | simp (maxSteps := 2000000) (disch := omega) only [go_sem, ↓reduceIte, Nat.reduceEqDiff, Nat.reduceAdd, Nat.reduceMul, Nat.reduceSub, Int.reduceToNat, Int.reduceAdd, Int.reduceSub, Int.reduceMul, Int.reduceNeg] | with_reducible refine vIf_t ?_ | with_reducible refine vIf_f ?_))
    (refine vCallX_of ?_; (repeat (first | simp (maxSteps := 2000000) (disch := omega) only [go_sem, ↓reduceIte, Nat.reduceEqDiff, Nat.reduceAdd, Nat.reduceMul, Nat.reduceSub, Int.reduceToNat, Int.reduceAdd, Int.reduceSub, Int.reduceMul, Int.reduceNeg] | with_reducible refine vIf_t ?_ | with_reducible refine vIf_f ?_)); refine vCall_eq (e1) (by simp (disch := omega) only [go_sem, Nat.reduceAdd]) rfl (by first | exact Or.inl rfl | exact Or.inr ⟨rfl, rfl⟩ | (apply Or.inr; simp only [go_sem])) ?_; (repeat (first | simp (maxSteps := 2000000) (disch := omega) only [go_sem, ↓reduceIte, Nat.reduceEqDiff, Nat.reduceAdd, Nat.reduceMul, Nat.reduceSub, Int.reduceToNat, Int.reduceAdd, Int.reduceSub, Int.reduceMul, Int.reduceNeg] | with_reducible refine vIf_t ?_ | with_reducible refine vIf_f ?_)))
    (refine vCallX_of ?_; (repeat (first | simp (maxSteps := 2000000) (disch := omega) only [go_sem, ↓reduceIte, Nat.reduceEqDiff, Nat.reduceAdd, Nat.reduceMul, Nat.reduceSub, Int.reduceToNat, Int.reduceAdd, Int.reduceSub, Int.reduceMul, Int.reduceNeg] | with_reducible refine vIf_t ?_ | with_reducible refine vIf_f ?_)); refine vCall_eq (e2) (by simp (disch := omega) only [go_sem, Nat.reduceAdd]) rfl (by first | exact Or.inl rfl | exact Or.inr ⟨rfl, rfl⟩ | (apply Or.inr; simp only [go_sem])) ?_; (repeat (first | simp (maxSteps := 2000000) (disch := omega) only [go_sem, ↓reduceIte, Nat.reduceEqDiff, Nat.reduceAdd, Nat.reduceMul, Nat.reduceSub, Int.reduceToNat, Int.reduceAdd, Int.reduceSub, Int.reduceMul, Int.reduceNeg] | with_reducible refine vIf_t ?_ | with_reducible refine vIf_f ?_)))
    (refine vCallX_of ?_; (repeat (first | simp (maxSteps := 2000000) (disch := omega) only [go_sem, ↓reduceIte, Nat.reduceEqDiff, Nat.reduceAdd, Nat.reduceMul, Nat.reduceSub, Int.reduceToNat, Int.reduceAdd, Int.reduceSub, Int.reduceMul, Int.reduceNeg] | with_reducible refine vIf_t ?_ | with_reducible refine vIf_f ?_)); refine vCall_eq (e3) (by simp (disch := omega) only [go_sem, Nat.reduceAdd]) rfl (by first | exact Or.inl rfl | exact Or.inr ⟨rfl, rfl⟩ | (apply Or.inr; simp only [go_sem])) ?_; (repeat (first | simp (maxSteps := 2000000) (disch := omega) only [go_sem, ↓reduceIte, Nat.reduceEqDiff, Nat.reduceAdd, Nat.reduceMul, Nat.reduceSub, Int.reduceToNat, Int.reduceAdd, Int.reduceSub, Int.reduceMul, Int.reduceNeg] | with_reducible refine vIf_t ?_ | with_reducible refine vIf_f ?_)))
    (try (repeat (first | simp (maxSteps := 2000000) (disch := omega) only [go_sem, ↓reduceIte, Nat.reduceEqDiff, Nat.reduceAdd, Nat.reduceMul, Nat.reduceSub, Int.reduceToNat, Int.reduceAdd, Int.reduceSub, Int.reduceMul, Int.reduceNeg, c0] | with_reducible refine vIf_t ?_ | with_reducible refine vIf_f ?_)))
    (refine vCallX_of ?_; (repeat (first | simp (maxSteps := 2000000) (disch := omega) only [go_sem, ↓reduceIte, Nat.reduceEqDiff, Nat.reduceAdd, Nat.reduceMul, Nat.reduceSub, Int.reduceToNat, Int.reduceAdd, Int.reduceSub, Int.reduceMul, Int.reduceNeg] | with_reducible refine vIf_t ?_ | with_reducible refine vIf_f ?_)); refine vCall_eq (e4) (by simp (disch := omega) only [go_sem, Nat.reduceAdd]) rfl (by first | exact Or.inl rfl | exact Or.inr ⟨rfl, rfl⟩ | (apply Or.inr; simp only [go_sem])) ?_; (repeat (first | simp (maxSteps := 2000000) (disch := omega) only [go_sem, ↓reduceIte, Nat.reduceEqDiff, Nat.reduceAdd, Nat.reduceMul, Nat.reduceSub, Int.reduceToNat, Int.reduceAdd, Int.reduceSub, Int.reduceMul, Int.reduceNeg] | with_reducible refine vIf_t ?_ | with_reducible refine vIf_f ?_)))
    (try (repeat (first | simp (maxSteps := 2000000) (disch := omega) only [go_sem, ↓reduceIte, Nat.reduceEqDiff, Nat.reduceAdd, Nat.reduceMul, Nat.reduceSub, Int.reduceToNat, Int.reduceAdd, Int.reduceSub, Int.reduceMul, Int.reduceNeg, c1] | with_reducible refine vIf_t ?_ | with_reducible refine vIf_f ?_)))
    (refine retK_of ?_; (repeat (first | simp (maxSteps := 2000000) (disch := omega) only [go_sem, ↓reduceIte, Nat.reduceEqDiff, Nat.reduceAdd, Nat.reduceMul, Nat.reduceSub, Int.reduceToNat, Int.reduceAdd, Int.reduceSub, Int.reduceMul, Int.reduceNeg] | with_reducible refine vIf_t ?_ | with_reducible refine vIf_f ?_)))
theorem l18One_ok (d : Df) (h : OkD d) : ACalls Try.prog 119 [.agg d.cells] [] (fun r o => r = B true ∧ o = []) := by
  refine ACalls.of_vc Try.func119 rfl (by decide) 29 rfl [.tmp 2] rfl (by simp) ?_
  obtain ⟨h1, h2, h3, h4⟩ := h
  have e1 := inS_ok d.met 0 300000
  have e2 := inS_ok d.kind 1 5
  have e3 := inS_ok d.found 1 100000
  have e4 := inS_ok d.mended d.found 100000
  rw [decide_eq_true h1] at e1
  rw [decide_eq_true h2] at e2
  rw [decide_eq_true h3] at e3
  unfold Df.cells
  by_cases hm : d.mended = 0
  · have c0 : (d.mended == 0) = true := by simpa using hm
    (repeat (first | simp (maxSteps := 2000000) (disch := omega) only [go_sem, ↓reduceIte, Nat.reduceEqDiff, Nat.reduceAdd, Nat.reduceMul, Nat.reduceSub, Int.reduceToNat, Int.reduceAdd, Int.reduceSub, Int.reduceMul, Int.reduceNeg] | with_reducible refine vIf_t ?_ | with_reducible refine vIf_f ?_))
    (refine vCallX_of ?_; (repeat (first | simp (maxSteps := 2000000) (disch := omega) only [go_sem, ↓reduceIte, Nat.reduceEqDiff, Nat.reduceAdd, Nat.reduceMul, Nat.reduceSub, Int.reduceToNat, Int.reduceAdd, Int.reduceSub, Int.reduceMul, Int.reduceNeg] | with_reducible refine vIf_t ?_ | with_reducible refine vIf_f ?_)); refine vCall_eq (e1) (by simp (disch := omega) only [go_sem, Nat.reduceAdd]) rfl (by first | exact Or.inl rfl | exact Or.inr ⟨rfl, rfl⟩ | (apply Or.inr; simp only [go_sem])) ?_; (repeat (first | simp (maxSteps := 2000000) (disch := omega) only [go_sem, ↓reduceIte, Nat.reduceEqDiff, Nat.reduceAdd, Nat.reduceMul, Nat.reduceSub, Int.reduceToNat, Int.reduceAdd, Int.reduceSub, Int.reduceMul, Int.reduceNeg] | with_reducible refine vIf_t ?_ | with_reducible refine vIf_f ?_)))
    (refine vCallX_of ?_; (repeat (first | simp (maxSteps := 2000000) (disch := omega) only [go_sem, ↓reduceIte, Nat.reduceEqDiff, Nat.reduceAdd, Nat.reduceMul, Nat.reduceSub, Int.reduceToNat, Int.reduceAdd, Int.reduceSub, Int.reduceMul, Int.reduceNeg] | with_reducible refine vIf_t ?_ | with_reducible refine vIf_f ?_)); refine vCall_eq (e2) (by simp (disch := omega) only [go_sem, Nat.reduceAdd]) rfl (by first | exact Or.inl rfl | exact Or.inr ⟨rfl, rfl⟩ | (apply Or.inr; simp only [go_sem])) ?_; (repeat (first | simp (maxSteps := 2000000) (disch := omega) only [go_sem, ↓reduceIte, Nat.reduceEqDiff, Nat.reduceAdd, Nat.reduceMul, Nat.reduceSub, Int.reduceToNat, Int.reduceAdd, Int.reduceSub, Int.reduceMul, Int.reduceNeg] | with_reducible refine vIf_t ?_ | with_reducible refine vIf_f ?_)))
    (refine vCallX_of ?_; (repeat (first | simp (maxSteps := 2000000) (disch := omega) only [go_sem, ↓reduceIte, Nat.reduceEqDiff, Nat.reduceAdd, Nat.reduceMul, Nat.reduceSub, Int.reduceToNat, Int.reduceAdd, Int.reduceSub, Int.reduceMul, Int.reduceNeg] | with_reducible refine vIf_t ?_ | with_reducible refine vIf_f ?_)); refine vCall_eq (e3) (by simp (disch := omega) only [go_sem, Nat.reduceAdd]) rfl (by first | exact Or.inl rfl | exact Or.inr ⟨rfl, rfl⟩ | (apply Or.inr; simp only [go_sem])) ?_; (repeat (first | simp (maxSteps := 2000000) (disch := omega) only [go_sem, ↓reduceIte, Nat.reduceEqDiff, Nat.reduceAdd, Nat.reduceMul, Nat.reduceSub, Int.reduceToNat, Int.reduceAdd, Int.reduceSub, Int.reduceMul, Int.reduceNeg] | with_reducible refine vIf_t ?_ | with_reducible refine vIf_f ?_)))
    (try (repeat (first | simp (maxSteps := 2000000) (disch := omega) only [go_sem, ↓reduceIte, Nat.reduceEqDiff, Nat.reduceAdd, Nat.reduceMul, Nat.reduceSub, Int.reduceToNat, Int.reduceAdd, Int.reduceSub, Int.reduceMul, Int.reduceNeg, c0] | with_reducible refine vIf_t ?_ | with_reducible refine vIf_f ?_)))
    (refine retK_of ?_; (repeat (first | simp (maxSteps := 2000000) (disch := omega) only [go_sem, ↓reduceIte, Nat.reduceEqDiff, Nat.reduceAdd, Nat.reduceMul, Nat.reduceSub, Int.reduceToNat, Int.reduceAdd, Int.reduceSub, Int.reduceMul, Int.reduceNeg] | with_reducible refine vIf_t ?_ | with_reducible refine vIf_f ?_)))
  · have c0 : (d.mended == 0) = false := by simpa using hm
    rw [decide_eq_true (by omega)] at e4
    (repeat (first | simp (maxSteps := 2000000) (disch := omega) only [go_sem, ↓reduceIte, Nat.reduceEqDiff, Nat.reduceAdd, Nat.reduceMul, Nat.reduceSub, Int.reduceToNat, Int.reduceAdd, Int.reduceSub, Int.reduceMul, Int.reduceNeg] | with_reducible refine vIf_t ?_ | with_reducible refine vIf_f ?_))
    (refine vCallX_of ?_; (repeat (first | simp (maxSteps := 2000000) (disch := omega) only [go_sem, ↓reduceIte, Nat.reduceEqDiff, Nat.reduceAdd, Nat.reduceMul, Nat.reduceSub, Int.reduceToNat, Int.reduceAdd, Int.reduceSub, Int.reduceMul, Int.reduceNeg] | with_reducible refine vIf_t ?_ | with_reducible refine vIf_f ?_)); refine vCall_eq (e1) (by simp (disch := omega) only [go_sem, Nat.reduceAdd]) rfl (by first | exact Or.inl rfl | exact Or.inr ⟨rfl, rfl⟩ | (apply Or.inr; simp only [go_sem])) ?_; (repeat (first | simp (maxSteps := 2000000) (disch := omega) only [go_sem, ↓reduceIte, Nat.reduceEqDiff, Nat.reduceAdd, Nat.reduceMul, Nat.reduceSub, Int.reduceToNat, Int.reduceAdd, Int.reduceSub, Int.reduceMul, Int.reduceNeg] | with_reducible refine vIf_t ?_ | with_reducible refine vIf_f ?_)))
    (refine vCallX_of ?_; (repeat (first | simp (maxSteps := 2000000) (disch := omega) only [go_sem, ↓reduceIte, Nat.reduceEqDiff, Nat.reduceAdd, Nat.reduceMul, Nat.reduceSub, Int.reduceToNat, Int.reduceAdd, Int.reduceSub, Int.reduceMul, Int.reduceNeg] | with_reducible refine vIf_t ?_ | with_reducible refine vIf_f ?_)); refine vCall_eq (e2) (by simp (disch := omega) only [go_sem, Nat.reduceAdd]) rfl (by first | exact Or.inl rfl | exact Or.inr ⟨rfl, rfl⟩ | (apply Or.inr; simp only [go_sem])) ?_; (repeat (first | simp (maxSteps := 2000000) (disch := omega) only [go_sem, ↓reduceIte, Nat.reduceEqDiff, Nat.reduceAdd, Nat.reduceMul, Nat.reduceSub, Int.reduceToNat, Int.reduceAdd, Int.reduceSub, Int.reduceMul, Int.reduceNeg] | with_reducible refine vIf_t ?_ | with_reducible refine vIf_f ?_)))
    (refine vCallX_of ?_; (repeat (first | simp (maxSteps := 2000000) (disch := omega) only [go_sem, ↓reduceIte, Nat.reduceEqDiff, Nat.reduceAdd, Nat.reduceMul, Nat.reduceSub, Int.reduceToNat, Int.reduceAdd, Int.reduceSub, Int.reduceMul, Int.reduceNeg] | with_reducible refine vIf_t ?_ | with_reducible refine vIf_f ?_)); refine vCall_eq (e3) (by simp (disch := omega) only [go_sem, Nat.reduceAdd]) rfl (by first | exact Or.inl rfl | exact Or.inr ⟨rfl, rfl⟩ | (apply Or.inr; simp only [go_sem])) ?_; (repeat (first | simp (maxSteps := 2000000) (disch := omega) only [go_sem, ↓reduceIte, Nat.reduceEqDiff, Nat.reduceAdd, Nat.reduceMul, Nat.reduceSub, Int.reduceToNat, Int.reduceAdd, Int.reduceSub, Int.reduceMul, Int.reduceNeg] | with_reducible refine vIf_t ?_ | with_reducible refine vIf_f ?_)))
    (try (repeat (first | simp (maxSteps := 2000000) (disch := omega) only [go_sem, ↓reduceIte, Nat.reduceEqDiff, Nat.reduceAdd, Nat.reduceMul, Nat.reduceSub, Int.reduceToNat, Int.reduceAdd, Int.reduceSub, Int.reduceMul, Int.reduceNeg, c0] | with_reducible refine vIf_t ?_ | with_reducible refine vIf_f ?_)))
    (refine vCallX_of ?_; (repeat (first | simp (maxSteps := 2000000) (disch := omega) only [go_sem, ↓reduceIte, Nat.reduceEqDiff, Nat.reduceAdd, Nat.reduceMul, Nat.reduceSub, Int.reduceToNat, Int.reduceAdd, Int.reduceSub, Int.reduceMul, Int.reduceNeg] | with_reducible refine vIf_t ?_ | with_reducible refine vIf_f ?_)); refine vCall_eq (e4) (by simp (disch := omega) only [go_sem, Nat.reduceAdd]) rfl (by first | exact Or.inl rfl | exact Or.inr ⟨rfl, rfl⟩ | (apply Or.inr; simp only [go_sem])) ?_; (repeat (first | simp (maxSteps := 2000000) (disch := omega) only [go_sem, ↓reduceIte, Nat.reduceEqDiff, Nat.reduceAdd, Nat.reduceMul, Nat.reduceSub, Int.reduceToNat, Int.reduceAdd, Int.reduceSub, Int.reduceMul, Int.reduceNeg] | with_reducible refine vIf_t ?_ | with_reducible refine vIf_f ?_)))
    (refine retK_of ?_; (repeat (first | simp (maxSteps := 2000000) (disch := omega) only [go_sem, ↓reduceIte, Nat.reduceEqDiff, Nat.reduceAdd, Nat.reduceMul, Nat.reduceSub, Int.reduceToNat, Int.reduceAdd, Int.reduceSub, Int.reduceMul, Int.reduceNeg] | with_reducible refine vIf_t ?_ | with_reducible refine vIf_f ?_)))
theorem lessD_ok (a b : Df) : ACalls Try.prog 106 [.agg a.cells, .agg b.cells] [] (fun r o => r = B (decide (DLt a b)) ∧ o = []) := by
  refine ACalls.of_vc Try.func106 rfl (by decide) 32 rfl [.tmp 4] rfl (by simp) ?_
  unfold Df.cells
  by_cases h1 : a.found = b.found
  · have c1 : (a.found != b.found) = false := by simpa using h1
    by_cases h2 : a.met = b.met
    · have c2 : (a.met != b.met) = false := by simpa using h2
      have e : decide (DLt a b) = decide (a.kind < b.kind) := decide_eq_decide.2 (by unfold DLt; omega)
      rw [e]
      (repeat (first | simp (maxSteps := 2000000) (disch := omega) only [go_sem, ↓reduceIte, Nat.reduceEqDiff, Nat.reduceAdd, Nat.reduceMul, Nat.reduceSub, Int.reduceToNat, Int.reduceAdd, Int.reduceSub, Int.reduceMul, Int.reduceNeg, c1, c2] | with_reducible refine vIf_t ?_ | with_reducible refine vIf_f ?_))
      (refine retK_of ?_; (repeat (first | simp (maxSteps := 2000000) (disch := omega) only [go_sem, ↓reduceIte, Nat.reduceEqDiff, Nat.reduceAdd, Nat.reduceMul, Nat.reduceSub, Int.reduceToNat, Int.reduceAdd, Int.reduceSub, Int.reduceMul, Int.reduceNeg] | with_reducible refine vIf_t ?_ | with_reducible refine vIf_f ?_)))
    · have c2 : (a.met != b.met) = true := by simpa using h2
      have e : decide (DLt a b) = decide (a.met < b.met) := decide_eq_decide.2 (by unfold DLt; omega)
      rw [e]
      (repeat (first | simp (maxSteps := 2000000) (disch := omega) only [go_sem, ↓reduceIte, Nat.reduceEqDiff, Nat.reduceAdd, Nat.reduceMul, Nat.reduceSub, Int.reduceToNat, Int.reduceAdd, Int.reduceSub, Int.reduceMul, Int.reduceNeg, c1, c2] | with_reducible refine vIf_t ?_ | with_reducible refine vIf_f ?_))
      (refine retK_of ?_; (repeat (first | simp (maxSteps := 2000000) (disch := omega) only [go_sem, ↓reduceIte, Nat.reduceEqDiff, Nat.reduceAdd, Nat.reduceMul, Nat.reduceSub, Int.reduceToNat, Int.reduceAdd, Int.reduceSub, Int.reduceMul, Int.reduceNeg] | with_reducible refine vIf_t ?_ | with_reducible refine vIf_f ?_)))
  · have c1 : (a.found != b.found) = true := by simpa using h1
    have e : decide (DLt a b) = decide (a.found < b.found) := decide_eq_decide.2 (by unfold DLt; omega)
    rw [e]
    (repeat (first | simp (maxSteps := 2000000) (disch := omega) only [go_sem, ↓reduceIte, Nat.reduceEqDiff, Nat.reduceAdd, Nat.reduceMul, Nat.reduceSub, Int.reduceToNat, Int.reduceAdd, Int.reduceSub, Int.reduceMul, Int.reduceNeg, c1] | with_reducible refine vIf_t ?_ | with_reducible refine vIf_f ?_))
    (refine retK_of ?_; (repeat (first | simp (maxSteps := 2000000) (disch := omega) only [go_sem, ↓reduceIte, Nat.reduceEqDiff, Nat.reduceAdd, Nat.reduceMul, Nat.reduceSub, Int.reduceToNat, Int.reduceAdd, Int.reduceSub, Int.reduceMul, Int.reduceNeg] | with_reducible refine vIf_t ?_ | with_reducible refine vIf_f ?_)))
@[local go_sem] theorem giC0 (x : Int) (xs : List Int) : gi (x :: xs) 0 = x := by simp [gi]
@[local go_sem] theorem giCS (x : Int) (xs : List Int) (n : Nat) : gi (x :: xs) (n + 1) = gi xs n := by simp [gi]
/-- the order as a number -/
def cmpD (a b : Df) : Int := if DLt a b then -1 else if DLt b a then 1 else 0
set_option maxHeartbeats 2000000 in
theorem l18Before_ok (a b : Df) : ACalls Try.prog 120 [.agg a.cells, .agg b.cells] [] (fun r o => r = I (cmpD a b) ∧ o = []) := by
  refine ACalls.of_vc Try.func120 rfl (by decide) 46 rfl [.tmp 4] rfl (by simp) ?_
  unfold Df.cells
  (repeat (first | simp (maxSteps := 2000000) (disch := omega) only [go_sem, ↓reduceIte, Nat.reduceEqDiff, Nat.reduceAdd, Nat.reduceMul, Nat.reduceSub, Int.reduceToNat, Int.reduceAdd, Int.reduceSub, Int.reduceMul, Int.reduceNeg] | with_reducible refine vIf_t ?_ | with_reducible refine vIf_f ?_))
  refine vcLoop_invF (fun k : Nat => k ≤ 3 ∧ (0 < k → a.found = b.found) ∧ (1 < k → a.met = b.met) ∧ (2 < k → a.kind = b.kind)) (fun k => ⟨46, 0, [(7, I k), (6, .ref 0 0 3), (5, .ref 1 0 3)], [oI [b.found, b.met, b.kind], oI [a.found, a.met, a.kind]]⟩) (fun k => 3 - k) 0 ⟨by omega, by omega, by omega, by omega⟩ (by (first | (refine leF_s ?_; ((repeat (first | simp (maxSteps := 2000000) (disch := omega) only [go_sem, ↓reduceIte, Nat.reduceEqDiff, Nat.reduceAdd, Nat.reduceMul, Nat.reduceSub, Int.reduceToNat, Int.reduceAdd, Int.reduceSub, Int.reduceMul, Int.reduceNeg] | with_reducible refine vIf_t ?_ | with_reducible refine vIf_f ?_)); all_goals (try simp); all_goals (try omega)); done) | (refine leF_p ?_; ((repeat (first | simp (maxSteps := 2000000) (disch := omega) only [go_sem, ↓reduceIte, Nat.reduceEqDiff, Nat.reduceAdd, Nat.reduceMul, Nat.reduceSub, Int.reduceToNat, Int.reduceAdd, Int.reduceSub, Int.reduceMul, Int.reduceNeg] | with_reducible refine vIf_t ?_ | with_reducible refine vIf_f ?_)); all_goals (try simp); all_goals (try omega)); done))) ?_
  rintro k ⟨hk, g1, g2, g3⟩
  rcases k with _ | _ | _ | k
  · by_cases c1 : a.found < b.found
    · have d1 : decide (a.found < b.found) = true := decide_eq_true c1
      (repeat (first | simp (maxSteps := 2000000) (disch := omega) only [go_sem, ↓reduceIte, Nat.reduceEqDiff, Nat.reduceAdd, Nat.reduceMul, Nat.reduceSub, Int.reduceToNat, Int.reduceAdd, Int.reduceSub, Int.reduceMul, Int.reduceNeg] | with_reducible refine vIf_t ?_ | with_reducible refine vIf_f ?_))
      (refine vDraw_sch 8 [(0, false), (1, false), (2, false), (4, false), (5, false), (6, false), (3, false), (7, true)] mixed (by kernel_rfl) ?_; simp only [List.cons_append, List.nil_append, List.map_cons, List.map_nil, nthO_zero, nthO_succ, List.drop_succ_cons, List.drop_zero, List.drop_nil]; (repeat (first | simp (maxSteps := 2000000) (disch := omega) only [go_sem, ↓reduceIte, Nat.reduceEqDiff, Nat.reduceAdd, Nat.reduceMul, Nat.reduceSub, Int.reduceToNat, Int.reduceAdd, Int.reduceSub, Int.reduceMul, Int.reduceNeg] | with_reducible refine vIf_t ?_ | with_reducible refine vIf_f ?_)))
      (try (repeat (first | simp (maxSteps := 2000000) (disch := omega) only [go_sem, ↓reduceIte, Nat.reduceEqDiff, Nat.reduceAdd, Nat.reduceMul, Nat.reduceSub, Int.reduceToNat, Int.reduceAdd, Int.reduceSub, Int.reduceMul, Int.reduceNeg, d1] | with_reducible refine vIf_t ?_ | with_reducible refine vIf_f ?_)))
      (refine retK_of ?_; (repeat (first | simp (maxSteps := 2000000) (disch := omega) only [go_sem, ↓reduceIte, Nat.reduceEqDiff, Nat.reduceAdd, Nat.reduceMul, Nat.reduceSub, Int.reduceToNat, Int.reduceAdd, Int.reduceSub, Int.reduceMul, Int.reduceNeg] | with_reducible refine vIf_t ?_ | with_reducible refine vIf_f ?_)))
      rw [cmpD, if_pos (by unfold DLt; omega)]
    · have d1 : decide (a.found < b.found) = false := decide_eq_false c1
      by_cases c2 : b.found < a.found
      · have d2 : decide (b.found < a.found) = true := decide_eq_true c2
        (repeat (first | simp (maxSteps := 2000000) (disch := omega) only [go_sem, ↓reduceIte, Nat.reduceEqDiff, Nat.reduceAdd, Nat.reduceMul, Nat.reduceSub, Int.reduceToNat, Int.reduceAdd, Int.reduceSub, Int.reduceMul, Int.reduceNeg] | with_reducible refine vIf_t ?_ | with_reducible refine vIf_f ?_))
        (refine vDraw_sch 8 [(0, false), (1, false), (2, false), (4, false), (5, false), (6, false), (3, false), (7, true)] mixed (by kernel_rfl) ?_; simp only [List.cons_append, List.nil_append, List.map_cons, List.map_nil, nthO_zero, nthO_succ, List.drop_succ_cons, List.drop_zero, List.drop_nil]; (repeat (first | simp (maxSteps := 2000000) (disch := omega) only [go_sem, ↓reduceIte, Nat.reduceEqDiff, Nat.reduceAdd, Nat.reduceMul, Nat.reduceSub, Int.reduceToNat, Int.reduceAdd, Int.reduceSub, Int.reduceMul, Int.reduceNeg] | with_reducible refine vIf_t ?_ | with_reducible refine vIf_f ?_)))
        (try (repeat (first | simp (maxSteps := 2000000) (disch := omega) only [go_sem, ↓reduceIte, Nat.reduceEqDiff, Nat.reduceAdd, Nat.reduceMul, Nat.reduceSub, Int.reduceToNat, Int.reduceAdd, Int.reduceSub, Int.reduceMul, Int.reduceNeg, d1] | with_reducible refine vIf_t ?_ | with_reducible refine vIf_f ?_)))
        (refine vDraw_sch 8 [(0, false), (1, false), (2, false), (4, false), (5, false), (6, false), (3, false), (7, true)] mixed (by kernel_rfl) ?_; simp only [List.cons_append, List.nil_append, List.map_cons, List.map_nil, nthO_zero, nthO_succ, List.drop_succ_cons, List.drop_zero, List.drop_nil]; (repeat (first | simp (maxSteps := 2000000) (disch := omega) only [go_sem, ↓reduceIte, Nat.reduceEqDiff, Nat.reduceAdd, Nat.reduceMul, Nat.reduceSub, Int.reduceToNat, Int.reduceAdd, Int.reduceSub, Int.reduceMul, Int.reduceNeg] | with_reducible refine vIf_t ?_ | with_reducible refine vIf_f ?_)))
        (try (repeat (first | simp (maxSteps := 2000000) (disch := omega) only [go_sem, ↓reduceIte, Nat.reduceEqDiff, Nat.reduceAdd, Nat.reduceMul, Nat.reduceSub, Int.reduceToNat, Int.reduceAdd, Int.reduceSub, Int.reduceMul, Int.reduceNeg, d2] | with_reducible refine vIf_t ?_ | with_reducible refine vIf_f ?_)))
        (refine retK_of ?_; (repeat (first | simp (maxSteps := 2000000) (disch := omega) only [go_sem, ↓reduceIte, Nat.reduceEqDiff, Nat.reduceAdd, Nat.reduceMul, Nat.reduceSub, Int.reduceToNat, Int.reduceAdd, Int.reduceSub, Int.reduceMul, Int.reduceNeg] | with_reducible refine vIf_t ?_ | with_reducible refine vIf_f ?_)))
        rw [cmpD, if_neg (by unfold DLt; omega), if_pos (by unfold DLt; omega)]
      · have d2 : decide (b.found < a.found) = false := decide_eq_false c2
        (repeat (first | simp (maxSteps := 2000000) (disch := omega) only [go_sem, ↓reduceIte, Nat.reduceEqDiff, Nat.reduceAdd, Nat.reduceMul, Nat.reduceSub, Int.reduceToNat, Int.reduceAdd, Int.reduceSub, Int.reduceMul, Int.reduceNeg] | with_reducible refine vIf_t ?_ | with_reducible refine vIf_f ?_))
        (refine vDraw_sch 8 [(0, false), (1, false), (2, false), (4, false), (5, false), (6, false), (3, false), (7, true)] mixed (by kernel_rfl) ?_; simp only [List.cons_append, List.nil_append, List.map_cons, List.map_nil, nthO_zero, nthO_succ, List.drop_succ_cons, List.drop_zero, List.drop_nil]; (repeat (first | simp (maxSteps := 2000000) (disch := omega) only [go_sem, ↓reduceIte, Nat.reduceEqDiff, Nat.reduceAdd, Nat.reduceMul, Nat.reduceSub, Int.reduceToNat, Int.reduceAdd, Int.reduceSub, Int.reduceMul, Int.reduceNeg] | with_reducible refine vIf_t ?_ | with_reducible refine vIf_f ?_)))
        (try (repeat (first | simp (maxSteps := 2000000) (disch := omega) only [go_sem, ↓reduceIte, Nat.reduceEqDiff, Nat.reduceAdd, Nat.reduceMul, Nat.reduceSub, Int.reduceToNat, Int.reduceAdd, Int.reduceSub, Int.reduceMul, Int.reduceNeg, d1] | with_reducible refine vIf_t ?_ | with_reducible refine vIf_f ?_)))
        (refine vDraw_sch 8 [(0, false), (1, false), (2, false), (4, false), (5, false), (6, false), (3, false), (7, true)] mixed (by kernel_rfl) ?_; simp only [List.cons_append, List.nil_append, List.map_cons, List.map_nil, nthO_zero, nthO_succ, List.drop_succ_cons, List.drop_zero, List.drop_nil]; (repeat (first | simp (maxSteps := 2000000) (disch := omega) only [go_sem, ↓reduceIte, Nat.reduceEqDiff, Nat.reduceAdd, Nat.reduceMul, Nat.reduceSub, Int.reduceToNat, Int.reduceAdd, Int.reduceSub, Int.reduceMul, Int.reduceNeg] | with_reducible refine vIf_t ?_ | with_reducible refine vIf_f ?_)))
        (try (repeat (first | simp (maxSteps := 2000000) (disch := omega) only [go_sem, ↓reduceIte, Nat.reduceEqDiff, Nat.reduceAdd, Nat.reduceMul, Nat.reduceSub, Int.reduceToNat, Int.reduceAdd, Int.reduceSub, Int.reduceMul, Int.reduceNeg, d2] | with_reducible refine vIf_t ?_ | with_reducible refine vIf_f ?_)))
        refine againF 1 ⟨by omega, by omega, by omega, by omega⟩ (by omega) (by (first | (refine leF_s ?_; ((repeat (first | simp (maxSteps := 2000000) (disch := omega) only [go_sem, ↓reduceIte, Nat.reduceEqDiff, Nat.reduceAdd, Nat.reduceMul, Nat.reduceSub, Int.reduceToNat, Int.reduceAdd, Int.reduceSub, Int.reduceMul, Int.reduceNeg] | with_reducible refine vIf_t ?_ | with_reducible refine vIf_f ?_)); all_goals (try simp); all_goals (try omega)); done) | (refine leF_p ?_; ((repeat (first | simp (maxSteps := 2000000) (disch := omega) only [go_sem, ↓reduceIte, Nat.reduceEqDiff, Nat.reduceAdd, Nat.reduceMul, Nat.reduceSub, Int.reduceToNat, Int.reduceAdd, Int.reduceSub, Int.reduceMul, Int.reduceNeg] | with_reducible refine vIf_t ?_ | with_reducible refine vIf_f ?_)); all_goals (try simp); all_goals (try omega)); done)))
  · have e0 := g1 (by omega)
    by_cases c1 : a.met < b.met
    · have d1 : decide (a.met < b.met) = true := decide_eq_true c1
      (repeat (first | simp (maxSteps := 2000000) (disch := omega) only [go_sem, ↓reduceIte, Nat.reduceEqDiff, Nat.reduceAdd, Nat.reduceMul, Nat.reduceSub, Int.reduceToNat, Int.reduceAdd, Int.reduceSub, Int.reduceMul, Int.reduceNeg] | with_reducible refine vIf_t ?_ | with_reducible refine vIf_f ?_))
      (refine vDraw_sch 8 [(0, false), (1, false), (2, false), (4, false), (5, false), (6, false), (3, false), (7, true)] mixed (by kernel_rfl) ?_; simp only [List.cons_append, List.nil_append, List.map_cons, List.map_nil, nthO_zero, nthO_succ, List.drop_succ_cons, List.drop_zero, List.drop_nil]; (repeat (first | simp (maxSteps := 2000000) (disch := omega) only [go_sem, ↓reduceIte, Nat.reduceEqDiff, Nat.reduceAdd, Nat.reduceMul, Nat.reduceSub, Int.reduceToNat, Int.reduceAdd, Int.reduceSub, Int.reduceMul, Int.reduceNeg] | with_reducible refine vIf_t ?_ | with_reducible refine vIf_f ?_)))
      (try (repeat (first | simp (maxSteps := 2000000) (disch := omega) only [go_sem, ↓reduceIte, Nat.reduceEqDiff, Nat.reduceAdd, Nat.reduceMul, Nat.reduceSub, Int.reduceToNat, Int.reduceAdd, Int.reduceSub, Int.reduceMul, Int.reduceNeg, d1] | with_reducible refine vIf_t ?_ | with_reducible refine vIf_f ?_)))
      (refine retK_of ?_; (repeat (first | simp (maxSteps := 2000000) (disch := omega) only [go_sem, ↓reduceIte, Nat.reduceEqDiff, Nat.reduceAdd, Nat.reduceMul, Nat.reduceSub, Int.reduceToNat, Int.reduceAdd, Int.reduceSub, Int.reduceMul, Int.reduceNeg] | with_reducible refine vIf_t ?_ | with_reducible refine vIf_f ?_)))
      rw [cmpD, if_pos (by unfold DLt; omega)]
    · have d1 : decide (a.met < b.met) = false := decide_eq_false c1
      by_cases c2 : b.met < a.met
      · have d2 : decide (b.met < a.met) = true := decide_eq_true c2
        (repeat (first | simp (maxSteps := 2000000) (disch := omega) only [go_sem, ↓reduceIte, Nat.reduceEqDiff, Nat.reduceAdd, Nat.reduceMul, Nat.reduceSub, Int.reduceToNat, Int.reduceAdd, Int.reduceSub, Int.reduceMul, Int.reduceNeg] | with_reducible refine vIf_t ?_ | with_reducible refine vIf_f ?_))
        (refine vDraw_sch 8 [(0, false), (1, false), (2, false), (4, false), (5, false), (6, false), (3, false), (7, true)] mixed (by kernel_rfl) ?_; simp only [List.cons_append, List.nil_append, List.map_cons, List.map_nil, nthO_zero, nthO_succ, List.drop_succ_cons, List.drop_zero, List.drop_nil]; (repeat (first | simp (maxSteps := 2000000) (disch := omega) only [go_sem, ↓reduceIte, Nat.reduceEqDiff, Nat.reduceAdd, Nat.reduceMul, Nat.reduceSub, Int.reduceToNat, Int.reduceAdd, Int.reduceSub, Int.reduceMul, Int.reduceNeg] | with_reducible refine vIf_t ?_ | with_reducible refine vIf_f ?_)))
        (try (repeat (first | simp (maxSteps := 2000000) (disch := omega) only [go_sem, ↓reduceIte, Nat.reduceEqDiff, Nat.reduceAdd, Nat.reduceMul, Nat.reduceSub, Int.reduceToNat, Int.reduceAdd, Int.reduceSub, Int.reduceMul, Int.reduceNeg, d1] | with_reducible refine vIf_t ?_ | with_reducible refine vIf_f ?_)))
        (refine vDraw_sch 8 [(0, false), (1, false), (2, false), (4, false), (5, false), (6, false), (3, false), (7, true)] mixed (by kernel_rfl) ?_; simp only [List.cons_append, List.nil_append, List.map_cons, List.map_nil, nthO_zero, nthO_succ, List.drop_succ_cons, List.drop_zero, List.drop_nil]; (repeat (first | simp (maxSteps := 2000000) (disch := omega) only [go_sem, ↓reduceIte, Nat.reduceEqDiff, Nat.reduceAdd, Nat.reduceMul, Nat.reduceSub, Int.reduceToNat, Int.reduceAdd, Int.reduceSub, Int.reduceMul, Int.reduceNeg] | with_reducible refine vIf_t ?_ | with_reducible refine vIf_f ?_)))
        (try (repeat (first | simp (maxSteps := 2000000) (disch := omega) only [go_sem, ↓reduceIte, Nat.reduceEqDiff, Nat.reduceAdd, Nat.reduceMul, Nat.reduceSub, Int.reduceToNat, Int.reduceAdd, Int.reduceSub, Int.reduceMul, Int.reduceNeg, d2] | with_reducible refine vIf_t ?_ | with_reducible refine vIf_f ?_)))
        (refine retK_of ?_; (repeat (first | simp (maxSteps := 2000000) (disch := omega) only [go_sem, ↓reduceIte, Nat.reduceEqDiff, Nat.reduceAdd, Nat.reduceMul, Nat.reduceSub, Int.reduceToNat, Int.reduceAdd, Int.reduceSub, Int.reduceMul, Int.reduceNeg] | with_reducible refine vIf_t ?_ | with_reducible refine vIf_f ?_)))
        rw [cmpD, if_neg (by unfold DLt; omega), if_pos (by unfold DLt; omega)]
      · have d2 : decide (b.met < a.met) = false := decide_eq_false c2
        (repeat (first | simp (maxSteps := 2000000) (disch := omega) only [go_sem, ↓reduceIte, Nat.reduceEqDiff, Nat.reduceAdd, Nat.reduceMul, Nat.reduceSub, Int.reduceToNat, Int.reduceAdd, Int.reduceSub, Int.reduceMul, Int.reduceNeg] | with_reducible refine vIf_t ?_ | with_reducible refine vIf_f ?_))
        (refine vDraw_sch 8 [(0, false), (1, false), (2, false), (4, false), (5, false), (6, false), (3, false), (7, true)] mixed (by kernel_rfl) ?_; simp only [List.cons_append, List.nil_append, List.map_cons, List.map_nil, nthO_zero, nthO_succ, List.drop_succ_cons, List.drop_zero, List.drop_nil]; (repeat (first | simp (maxSteps := 2000000) (disch := omega) only [go_sem, ↓reduceIte, Nat.reduceEqDiff, Nat.reduceAdd, Nat.reduceMul, Nat.reduceSub, Int.reduceToNat, Int.reduceAdd, Int.reduceSub, Int.reduceMul, Int.reduceNeg] | with_reducible refine vIf_t ?_ | with_reducible refine vIf_f ?_)))
        (try (repeat (first | simp (maxSteps := 2000000) (disch := omega) only [go_sem, ↓reduceIte, Nat.reduceEqDiff, Nat.reduceAdd, Nat.reduceMul, Nat.reduceSub, Int.reduceToNat, Int.reduceAdd, Int.reduceSub, Int.reduceMul, Int.reduceNeg, d1] | with_reducible refine vIf_t ?_ | with_reducible refine vIf_f ?_)))
        (refine vDraw_sch 8 [(0, false), (1, false), (2, false), (4, false), (5, false), (6, false), (3, false), (7, true)] mixed (by kernel_rfl) ?_; simp only [List.cons_append, List.nil_append, List.map_cons, List.map_nil, nthO_zero, nthO_succ, List.drop_succ_cons, List.drop_zero, List.drop_nil]; (repeat (first | simp (maxSteps := 2000000) (disch := omega) only [go_sem, ↓reduceIte, Nat.reduceEqDiff, Nat.reduceAdd, Nat.reduceMul, Nat.reduceSub, Int.reduceToNat, Int.reduceAdd, Int.reduceSub, Int.reduceMul, Int.reduceNeg] | with_reducible refine vIf_t ?_ | with_reducible refine vIf_f ?_)))
        (try (repeat (first | simp (maxSteps := 2000000) (disch := omega) only [go_sem, ↓reduceIte, Nat.reduceEqDiff, Nat.reduceAdd, Nat.reduceMul, Nat.reduceSub, Int.reduceToNat, Int.reduceAdd, Int.reduceSub, Int.reduceMul, Int.reduceNeg, d2] | with_reducible refine vIf_t ?_ | with_reducible refine vIf_f ?_)))
        refine againF 2 ⟨by omega, by omega, by omega, by omega⟩ (by omega) (by (first | (refine leF_s ?_; ((repeat (first | simp (maxSteps := 2000000) (disch := omega) only [go_sem, ↓reduceIte, Nat.reduceEqDiff, Nat.reduceAdd, Nat.reduceMul, Nat.reduceSub, Int.reduceToNat, Int.reduceAdd, Int.reduceSub, Int.reduceMul, Int.reduceNeg] | with_reducible refine vIf_t ?_ | with_reducible refine vIf_f ?_)); all_goals (try simp); all_goals (try omega)); done) | (refine leF_p ?_; ((repeat (first | simp (maxSteps := 2000000) (disch := omega) only [go_sem, ↓reduceIte, Nat.reduceEqDiff, Nat.reduceAdd, Nat.reduceMul, Nat.reduceSub, Int.reduceToNat, Int.reduceAdd, Int.reduceSub, Int.reduceMul, Int.reduceNeg] | with_reducible refine vIf_t ?_ | with_reducible refine vIf_f ?_)); all_goals (try simp); all_goals (try omega)); done)))
  · have e0 := g1 (by omega)
    have e1 := g2 (by omega)
    by_cases c1 : a.kind < b.kind
    · have d1 : decide (a.kind < b.kind) = true := decide_eq_true c1
      (repeat (first | simp (maxSteps := 2000000) (disch := omega) only [go_sem, ↓reduceIte, Nat.reduceEqDiff, Nat.reduceAdd, Nat.reduceMul, Nat.reduceSub, Int.reduceToNat, Int.reduceAdd, Int.reduceSub, Int.reduceMul, Int.reduceNeg] | with_reducible refine vIf_t ?_ | with_reducible refine vIf_f ?_))
      (refine vDraw_sch 8 [(0, false), (1, false), (2, false), (4, false), (5, false), (6, false), (3, false), (7, true)] mixed (by kernel_rfl) ?_; simp only [List.cons_append, List.nil_append, List.map_cons, List.map_nil, nthO_zero, nthO_succ, List.drop_succ_cons, List.drop_zero, List.drop_nil]; (repeat (first | simp (maxSteps := 2000000) (disch := omega) only [go_sem, ↓reduceIte, Nat.reduceEqDiff, Nat.reduceAdd, Nat.reduceMul, Nat.reduceSub, Int.reduceToNat, Int.reduceAdd, Int.reduceSub, Int.reduceMul, Int.reduceNeg] | with_reducible refine vIf_t ?_ | with_reducible refine vIf_f ?_)))
      (try (repeat (first | simp (maxSteps := 2000000) (disch := omega) only [go_sem, ↓reduceIte, Nat.reduceEqDiff, Nat.reduceAdd, Nat.reduceMul, Nat.reduceSub, Int.reduceToNat, Int.reduceAdd, Int.reduceSub, Int.reduceMul, Int.reduceNeg, d1] | with_reducible refine vIf_t ?_ | with_reducible refine vIf_f ?_)))
      (refine retK_of ?_; (repeat (first | simp (maxSteps := 2000000) (disch := omega) only [go_sem, ↓reduceIte, Nat.reduceEqDiff, Nat.reduceAdd, Nat.reduceMul, Nat.reduceSub, Int.reduceToNat, Int.reduceAdd, Int.reduceSub, Int.reduceMul, Int.reduceNeg] | with_reducible refine vIf_t ?_ | with_reducible refine vIf_f ?_)))
      rw [cmpD, if_pos (by unfold DLt; omega)]
    · have d1 : decide (a.kind < b.kind) = false := decide_eq_false c1
      by_cases c2 : b.kind < a.kind
      · have d2 : decide (b.kind < a.kind) = true := decide_eq_true c2
        (repeat (first | simp (maxSteps := 2000000) (disch := omega) only [go_sem, ↓reduceIte, Nat.reduceEqDiff, Nat.reduceAdd, Nat.reduceMul, Nat.reduceSub, Int.reduceToNat, Int.reduceAdd, Int.reduceSub, Int.reduceMul, Int.reduceNeg] | with_reducible refine vIf_t ?_ | with_reducible refine vIf_f ?_))
        (refine vDraw_sch 8 [(0, false), (1, false), (2, false), (4, false), (5, false), (6, false), (3, false), (7, true)] mixed (by kernel_rfl) ?_; simp only [List.cons_append, List.nil_append, List.map_cons, List.map_nil, nthO_zero, nthO_succ, List.drop_succ_cons, List.drop_zero, List.drop_nil]; (repeat (first | simp (maxSteps := 2000000) (disch := omega) only [go_sem, ↓reduceIte, Nat.reduceEqDiff, Nat.reduceAdd, Nat.reduceMul, Nat.reduceSub, Int.reduceToNat, Int.reduceAdd, Int.reduceSub, Int.reduceMul, Int.reduceNeg] | with_reducible refine vIf_t ?_ | with_reducible refine vIf_f ?_)))
        (try (repeat (first | simp (maxSteps := 2000000) (disch := omega) only [go_sem, ↓reduceIte, Nat.reduceEqDiff, Nat.reduceAdd, Nat.reduceMul, Nat.reduceSub, Int.reduceToNat, Int.reduceAdd, Int.reduceSub, Int.reduceMul, Int.reduceNeg, d1] | with_reducible refine vIf_t ?_ | with_reducible refine vIf_f ?_)))
        (refine vDraw_sch 8 [(0, false), (1, false), (2, false), (4, false), (5, false), (6, false), (3, false), (7, true)] mixed (by kernel_rfl) ?_; simp only [List.cons_append, List.nil_append, List.map_cons, List.map_nil, nthO_zero, nthO_succ, List.drop_succ_cons, List.drop_zero, List.drop_nil]; (repeat (first | simp (maxSteps := 2000000) (disch := omega) only [go_sem, ↓reduceIte, Nat.reduceEqDiff, Nat.reduceAdd, Nat.reduceMul, Nat.reduceSub, Int.reduceToNat, Int.reduceAdd, Int.reduceSub, Int.reduceMul, Int.reduceNeg] | with_reducible refine vIf_t ?_ | with_reducible refine vIf_f ?_)))
        (try (repeat (first | simp (maxSteps := 2000000) (disch := omega) only [go_sem, ↓reduceIte, Nat.reduceEqDiff, Nat.reduceAdd, Nat.reduceMul, Nat.reduceSub, Int.reduceToNat, Int.reduceAdd, Int.reduceSub, Int.reduceMul, Int.reduceNeg, d2] | with_reducible refine vIf_t ?_ | with_reducible refine vIf_f ?_)))
        (refine retK_of ?_; (repeat (first | simp (maxSteps := 2000000) (disch := omega) only [go_sem, ↓reduceIte, Nat.reduceEqDiff, Nat.reduceAdd, Nat.reduceMul, Nat.reduceSub, Int.reduceToNat, Int.reduceAdd, Int.reduceSub, Int.reduceMul, Int.reduceNeg] | with_reducible refine vIf_t ?_ | with_reducible refine vIf_f ?_)))
        rw [cmpD, if_neg (by unfold DLt; omega), if_pos (by unfold DLt; omega)]
      · have d2 : decide (b.kind < a.kind) = false := decide_eq_false c2
        (repeat (first | simp (maxSteps := 2000000) (disch := omega) only [go_sem, ↓reduceIte, Nat.reduceEqDiff, Nat.reduceAdd, Nat.reduceMul, Nat.reduceSub, Int.reduceToNat, Int.reduceAdd, Int.reduceSub, Int.reduceMul, Int.reduceNeg] | with_reducible refine vIf_t ?_ | with_reducible refine vIf_f ?_))
        (refine vDraw_sch 8 [(0, false), (1, false), (2, false), (4, false), (5, false), (6, false), (3, false), (7, true)] mixed (by kernel_rfl) ?_; simp only [List.cons_append, List.nil_append, List.map_cons, List.map_nil, nthO_zero, nthO_succ, List.drop_succ_cons, List.drop_zero, List.drop_nil]; (repeat (first | simp (maxSteps := 2000000) (disch := omega) only [go_sem, ↓reduceIte, Nat.reduceEqDiff, Nat.reduceAdd, Nat.reduceMul, Nat.reduceSub, Int.reduceToNat, Int.reduceAdd, Int.reduceSub, Int.reduceMul, Int.reduceNeg] | with_reducible refine vIf_t ?_ | with_reducible refine vIf_f ?_)))
        (try (repeat (first | simp (maxSteps := 2000000) (disch := omega) only [go_sem, ↓reduceIte, Nat.reduceEqDiff, Nat.reduceAdd, Nat.reduceMul, Nat.reduceSub, Int.reduceToNat, Int.reduceAdd, Int.reduceSub, Int.reduceMul, Int.reduceNeg, d1] | with_reducible refine vIf_t ?_ | with_reducible refine vIf_f ?_)))
        (refine vDraw_sch 8 [(0, false), (1, false), (2, false), (4, false), (5, false), (6, false), (3, false), (7, true)] mixed (by kernel_rfl) ?_; simp only [List.cons_append, List.nil_append, List.map_cons, List.map_nil, nthO_zero, nthO_succ, List.drop_succ_cons, List.drop_zero, List.drop_nil]; (repeat (first | simp (maxSteps := 2000000) (disch := omega) only [go_sem, ↓reduceIte, Nat.reduceEqDiff, Nat.reduceAdd, Nat.reduceMul, Nat.reduceSub, Int.reduceToNat, Int.reduceAdd, Int.reduceSub, Int.reduceMul, Int.reduceNeg] | with_reducible refine vIf_t ?_ | with_reducible refine vIf_f ?_)))
        (try (repeat (first | simp (maxSteps := 2000000) (disch := omega) only [go_sem, ↓reduceIte, Nat.reduceEqDiff, Nat.reduceAdd, Nat.reduceMul, Nat.reduceSub, Int.reduceToNat, Int.reduceAdd, Int.reduceSub, Int.reduceMul, Int.reduceNeg, d2] | with_reducible refine vIf_t ?_ | with_reducible refine vIf_f ?_)))
        refine againF 3 ⟨by omega, by omega, by omega, by omega⟩ (by omega) (by (first | (refine leF_s ?_; ((repeat (first | simp (maxSteps := 2000000) (disch := omega) only [go_sem, ↓reduceIte, Nat.reduceEqDiff, Nat.reduceAdd, Nat.reduceMul, Nat.reduceSub, Int.reduceToNat, Int.reduceAdd, Int.reduceSub, Int.reduceMul, Int.reduceNeg] | with_reducible refine vIf_t ?_ | with_reducible refine vIf_f ?_)); all_goals (try simp); all_goals (try omega)); done) | (refine leF_p ?_; ((repeat (first | simp (maxSteps := 2000000) (disch := omega) only [go_sem, ↓reduceIte, Nat.reduceEqDiff, Nat.reduceAdd, Nat.reduceMul, Nat.reduceSub, Int.reduceToNat, Int.reduceAdd, Int.reduceSub, Int.reduceMul, Int.reduceNeg] | with_reducible refine vIf_t ?_ | with_reducible refine vIf_f ?_)); all_goals (try simp); all_goals (try omega)); done)))
  · obtain rfl : k = 0 := by omega
    have e0 := g1 (by omega)
    have e1 := g2 (by omega)
    have e2 := g3 (by omega)
    (repeat (first | simp (maxSteps := 2000000) (disch := omega) only [go_sem, ↓reduceIte, Nat.reduceEqDiff, Nat.reduceAdd, Nat.reduceMul, Nat.reduceSub, Int.reduceToNat, Int.reduceAdd, Int.reduceSub, Int.reduceMul, Int.reduceNeg] | with_reducible refine vIf_t ?_ | with_reducible refine vIf_f ?_))
    (refine retK_of ?_; (repeat (first | simp (maxSteps := 2000000) (disch := omega) only [go_sem, ↓reduceIte, Nat.reduceEqDiff, Nat.reduceAdd, Nat.reduceMul, Nat.reduceSub, Int.reduceToNat, Int.reduceAdd, Int.reduceSub, Int.reduceMul, Int.reduceNeg] | with_reducible refine vIf_t ?_ | with_reducible refine vIf_f ?_)))
    rw [cmpD, if_neg (by unfold DLt; omega), if_neg (by unfold DLt; omega)]
end Go.Proofs.Ytilocioajpcoiaa

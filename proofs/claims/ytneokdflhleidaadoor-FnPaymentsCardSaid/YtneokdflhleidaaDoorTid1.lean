/- tides: the drawn table; what is valid -/
import Derived.Test.YtneokdflhleidaaDoorSrc2
import Derived.Test.YtneokdflhleidaaDoorX3
import Derived.Test.YtneokdflhleidaaDoorIxs
set_option linter.unusedVariables false
set_option linter.unusedSimpArgs false
namespace Go.Proofs.YtneokdflhleidaaDoor
open Go.AG

structure Tde where
  min : Int
  lev : Int
  deriving Inhabited, DecidableEq
def Tde.cells (d : Tde) : List V := [.sc (.int .i64 d.min), .sc (.int .i64 d.lev)]
def cTde (ds : List Tde) : List V := ds.flatMap Tde.cells
def gTde (ds : List Tde) (i : Nat) : Tde := ds.getD i default
theorem gTde_lt (ds : List Tde) (i : Nat) (h : i < ds.length) : gTde ds i = ds[i] := by simp [gTde, h]
theorem gTde_mem (ds : List Tde) (i : Nat) (h : i < ds.length) : gTde ds i ∈ ds := by rw [gTde_lt ds i h]; exact List.getElem_mem h
theorem gTde_take_succ (ds : List Tde) (i : Nat) (h : i < ds.length) : ds.take (i + 1) = ds.take i ++ [gTde ds i] := by rw [List.take_succ_eq_append_getElem h, gTde_lt ds i h]
theorem gTde_set_same (ds : List Tde) (i : Nat) (d : Tde) (h : i < ds.length) : gTde (ds.set i d) i = d := by simp [gTde, h]
theorem gTde_set_ne (ds : List Tde) (i j : Nat) (d : Tde) (h : i ≠ j) : gTde (ds.set i d) j = gTde ds j := by simp [gTde, h]
theorem gTde_app_l (xs ys : List Tde) (i : Nat) (h : i < xs.length) : gTde (xs ++ ys) i = gTde xs i := by simp [gTde, List.getElem?_append_left h]
theorem gTde_app_r (xs ys : List Tde) (i : Nat) (h : xs.length ≤ i) : gTde (xs ++ ys) i = gTde ys (i - xs.length) := by simp [gTde, List.getElem?_append_right h]
theorem cTde_eq (ds : List Tde) : cTde ds = (ds.map Tde.cells).flatten := by rw [cTde, List.flatMap_def]
@[go_sem] theorem length_cTde (ds : List Tde) : (cTde ds).length = ds.length * 2 := (rsLen Tde.cells 2 (fun _ => rfl) ds)
@[go_sem] theorem cTde_nil : cTde [] = [] := rfl
@[go_sem] theorem cTde_append (xs ys : List Tde) : cTde xs ++ cTde ys = cTde (xs ++ ys) := by simp [cTde]
theorem cTde_one (d : Tde) : cTde [d] = d.cells := by simp [cTde]
@[go_sem] theorem cTde_snoc (xs : List Tde) (min : Int) (lev : Int) : cTde xs ++ [.sc (.int .i64 min), .sc (.int .i64 lev)] = cTde (xs ++ [⟨min, lev⟩]) := by simp [cTde, Tde.cells]
@[go_sem] theorem cTde_take (ds : List Tde) (n : Nat) : (cTde ds).take (n * 2) = cTde (ds.take n) := rsTake Tde.cells 2 (fun _ => rfl) ds n
@[go_sem] theorem cTde_take_all (ds : List Tde) (n : Nat) (h : ds.length * 2 ≤ n) : (cTde ds).take n = cTde ds := List.take_of_length_le (by rw [length_cTde]; exact h)
@[go_sem] theorem cTde_drop (ds : List Tde) (n : Nat) : (cTde ds).drop (n * 2) = cTde (ds.drop n) := rsDrop Tde.cells 2 (fun _ => rfl) ds n
@[go_sem high] theorem vPart_cTde (ds : List Tde) (i : Nat) (K : V → Prop) : vPart true 2 (cTde ds) (i * 2) K = grd (i < ds.length) (K (.agg [.sc (.int .i64 (gTde ds i).min), .sc (.int .i64 (gTde ds i).lev)])) := rsPart Tde.cells 2 (fun _ => rfl) (by omega) ds i K
@[go_sem] theorem vAt_cTde_0 (ds : List Tde) (i : Nat) (K : V → Prop) : vAt (cTde ds) (i * 2) K = grd (i < ds.length) (K (.sc (.int .i64 (gTde ds i).min))) := rsAt Tde.cells 2 (fun _ => rfl) ds i 0 (by omega) (fun d => .sc (.int .i64 d.min)) (fun _ => rfl) K
@[go_sem] theorem wr_cTde_0 (ds : List Tde) (i : Nat) (x : Int) (h : i < ds.length) : wr (cTde ds) (i * 2) [.sc (.int .i64 x)] = cTde (ds.set i {gTde ds i with min := x}) := rsWr Tde.cells 2 (fun _ => rfl) ds i 0 (by omega) h _ _ rfl
@[go_sem] theorem vAt_cTde_1 (ds : List Tde) (i : Nat) (K : V → Prop) : vAt (cTde ds) (i * 2 + 1) K = grd (i < ds.length) (K (.sc (.int .i64 (gTde ds i).lev))) := rsAt Tde.cells 2 (fun _ => rfl) ds i 1 (by omega) (fun d => .sc (.int .i64 d.lev)) (fun _ => rfl) K
@[go_sem] theorem wr_cTde_1 (ds : List Tde) (i : Nat) (x : Int) (h : i < ds.length) : wr (cTde ds) (i * 2 + 1) [.sc (.int .i64 x)] = cTde (ds.set i {gTde ds i with lev := x}) := rsWr Tde.cells 2 (fun _ => rfl) ds i 1 (by omega) h _ _ rfl
@[go_sem] theorem wr_cTde_0_set (ds : List Tde) (i i0 : Nat) (d : Tde) (x : Int) (h : i < ds.length) : wr (cTde (ds.set i0 d)) (i * 2) [.sc (.int .i64 x)] = cTde ((ds.set i0 d).set i {gTde (ds.set i0 d) i with min := x}) := wr_cTde_0 _ _ _ (by rw [List.length_set]; exact h)
@[go_sem] theorem wr_cTde_1_set (ds : List Tde) (i i0 : Nat) (d : Tde) (x : Int) (h : i < ds.length) : wr (cTde (ds.set i0 d)) (i * 2 + 1) [.sc (.int .i64 x)] = cTde ((ds.set i0 d).set i {gTde (ds.set i0 d) i with lev := x}) := wr_cTde_1 _ _ _ (by rw [List.length_set]; exact h)
attribute [go_sem] gTde_set_same
@[go_sem] theorem wr_cTde_all (ds : List Tde) (i : Nat) (min : Int) (lev : Int) (h : i < ds.length) : wr (cTde ds) (i * 2) [.sc (.int .i64 min), .sc (.int .i64 lev)] = cTde (ds.set i ⟨min, lev⟩) := rsWrAll Tde.cells 2 (fun _ => rfl) ds i h ⟨min, lev⟩
@[go_sem] theorem imm_cTde (ds : List Tde) : V.immL (cTde ds) = true := by induction ds with | nil => rfl | cons x xs ih => exact ih
@[go_sem] theorem one_cTde (ds : List Tde) : V.oneL (cTde ds) = true := by induction ds with | nil => rfl | cons x xs ih => exact ih
@[go_sem] theorem noref_cTde (ds : List Tde) : V.norefL (cTde ds) = true := by induction ds with | nil => rfl | cons x xs ih => exact ih
@[go_sem] theorem flat_cTde (ds : List Tde) : V.flatL (cTde ds) = true := by induction ds with | nil => rfl | cons x xs ih => exact ih
@[go_sem] theorem kill_cTde (p : Nat → Bool) (ds : List Tde) : V.killL p (cTde ds) = cTde ds := killL_noref p _ (noref_cTde ds)
@[go_sem] theorem frz_cTde (f : Nat → Option Ob) (ds : List Tde) : V.frzL f (cTde ds) = cTde ds := frzL_noref f _ (noref_cTde ds)
@[go_sem] theorem ren_cTde (g : Nat → Nat) (ds : List Tde) : V.renL g (cTde ds) = cTde ds := by induction ds with | nil => rfl | cons x xs ih => exact congrArg (x.cells ++ ·) ih
@[go_sem] theorem reps_cTde (n : Nat) : reps n [V.sc (.int .i64 0), V.sc (.int .i64 0)] = cTde (List.replicate n ⟨0, 0⟩) := rsReps Tde.cells n ⟨0, 0⟩
@[go_sem] theorem map_cTde_inj (xs ys : List Tde) : (cTde xs = cTde ys) = (xs = ys) := propext ⟨rsInj Tde.cells 2 (fun _ => rfl) (by omega) (fun a b h => by cases a; cases b; simpa [Tde.cells] using h) xs ys, fun h => by rw [h]⟩
@[go_sem] theorem cTde_rep0 (d : Tde) : cTde (List.replicate 0 d) = [] := rfl
@[go_sem] theorem wr_cTde_rep1 (d : Tde) (min : Int) (lev : Int) : wr (cTde (List.replicate 1 d)) 0 [.sc (.int .i64 min), .sc (.int .i64 lev)] = cTde [⟨min, lev⟩] := rfl
@[go_sem] theorem cTde_take1 (d : Tde) : (cTde [d]).take 2 = cTde [d] := rfl
/-- whether the level rises from the i-th element on -/
def upT (u : Bool) (i : Nat) : Bool := if i % 2 = 0 then u else !u
/-- one element behind another -/
def stT (u : Bool) (ds : List Tde) (i : Nat) : Prop := ((gTde ds i).min < (gTde ds (i + 1)).min ∧ (gTde ds (i + 1)).min ≤ (gTde ds i).min + 40) ∧
  (if upT u i = true then (gTde ds i).lev < (gTde ds (i + 1)).lev else (gTde ds (i + 1)).lev < (gTde ds i).lev)
structure TdX (u : Bool) (ds : List Tde) : Prop where
  n1 : 2 ≤ ds.length
  n2 : ds.length ≤ 9
  m : ∀ i, i < ds.length → 0 ≤ (gTde ds i).min ∧ (gTde ds i).min ≤ 500
  l : ∀ i, i < ds.length → -1500 ≤ (gTde ds i).lev ∧ (gTde ds i).lev ≤ 1500
  s : ∀ i, i + 1 < ds.length → stT u ds i
theorem upT_succ (u : Bool) (i : Nat) : upT u (i + 1) = !(upT u i) := by
  unfold upT
  have h : (i + 1) % 2 = if i % 2 = 0 then 1 else 0 := by split <;> omega
  rw [h]
  by_cases e : i % 2 = 0 <;> simp [e]
/-- what a table that is being drawn knows -/
structure TdD (u : Bool) (ds : List Tde) (at' lev : Int) : Prop where
  m : ∀ i, i < ds.length → 0 ≤ (gTde ds i).min ∧ (gTde ds i).min ≤ 49 + 40 * i
  l : ∀ i, i < ds.length → -50 - 150 * i ≤ (gTde ds i).lev ∧ (gTde ds i).lev ≤ 50 + 150 * i
  s : ∀ i, i + 1 < ds.length → stT u ds i
  a : 0 ≤ at' ∧ at' ≤ 49 + 40 * ds.length
  v : -50 - 150 * (ds.length : Int) ≤ lev ∧ lev ≤ 50 + 150 * ds.length
  z : 0 < ds.length → ((gTde ds (ds.length - 1)).min < at' ∧ at' ≤ (gTde ds (ds.length - 1)).min + 40) ∧ (if upT u (ds.length - 1) = true then (gTde ds (ds.length - 1)).lev < lev else lev < (gTde ds (ds.length - 1)).lev)
theorem TdD.start (u : Bool) {a l : Int} (ha : 0 ≤ a ∧ a ≤ 49) (hl : -50 ≤ l ∧ l ≤ 50) : TdD u [] a l :=
  ⟨fun i h => by simp at h, fun i h => by simp at h, fun i h => by simp at h, by simp; omega, by simp; omega, fun h => by simp at h⟩
theorem TdD.snoc {u : Bool} {ds : List Tde} {a l a' l' : Int} (h : TdD u ds a l) (ha : a < a' ∧ a' ≤ a + 40) (hl : if upT u ds.length = true then l < l' ∧ l' ≤ l + 150 else l' < l ∧ l - 150 ≤ l') : TdD u (ds ++ [⟨a, l⟩]) a' l' := by
  have e : (ds ++ [(⟨a, l⟩ : Tde)]).length = ds.length + 1 := by simp
  have gl : gTde (ds ++ [⟨a, l⟩]) ds.length = ⟨a, l⟩ := by rw [gTde_app_r _ _ _ (Nat.le_refl _), Nat.sub_self]; rfl
  have gi' : ∀ i, i < ds.length → gTde (ds ++ [⟨a, l⟩]) i = gTde ds i := fun i hi => gTde_app_l _ _ _ hi
  obtain ⟨h1, h2, h3, h4, h5, h6⟩ := h
  refine ⟨fun i hi => ?_, fun i hi => ?_, fun i hi => ?_, ?_, ?_, fun _ => ?_⟩
  · rw [e] at hi
    by_cases hx : i < ds.length
    · rw [gi' i hx]; exact h1 i hx
    · rw [show i = ds.length by omega, gl]; exact h4
  · rw [e] at hi
    by_cases hx : i < ds.length
    · rw [gi' i hx]; exact h2 i hx
    · rw [show i = ds.length by omega, gl]; exact h5
  · rw [e] at hi
    unfold stT
    by_cases hx : i + 1 < ds.length
    · rw [gi' i (by omega), gi' (i + 1) hx]; exact h3 i hx
    · have h7 := h6 (by omega)
      rw [show i = ds.length - 1 by omega, gi' (ds.length - 1) (by omega), show ds.length - 1 + 1 = ds.length by omega, gl]
      exact h7
  · rw [e]; omega
  · rw [e]; split at hl <;> omega
  · rw [e, Nat.add_sub_cancel, gl]
    refine ⟨ha, ?_⟩
    simp only
    split at hl
    · rename_i hu; rw [if_pos hu]; omega
    · rename_i hu; rw [if_neg hu]; omega
end Go.Proofs.YtneokdflhleidaaDoor

/- watches: guards, shifts, plans: plain law -/
import Derived.Test.YtfhckmlmfigfjaaGreatDoorNmL
import Derived.Test.YtfhckmlmfigfjaaGreatDoorUtil
import Derived.Test.YtfhckmlmfigfjaaGreatDoorPutI
import Derived.Test.YtfhckmlmfigfjaaGreatDoorIxs
set_option linter.unusedVariables false
set_option linter.unusedSimpArgs false
namespace Go.Proofs.YtfhckmlmfigfjaaGreatDoor
open Go.AG Go.Lib

structure Gd where
  name : ByteArray
  fr : Int
  tw : Int
  deriving Inhabited, DecidableEq
def Gd.cells (d : Gd) : List V := [.sc (.string d.name), .sc (.int .i64 d.fr), .sc (.int .i64 d.tw)]
def cGd (ds : List Gd) : List V := ds.flatMap Gd.cells
def gGd (ds : List Gd) (i : Nat) : Gd := ds.getD i default
theorem gGd_lt (ds : List Gd) (i : Nat) (h : i < ds.length) : gGd ds i = ds[i] := by simp [gGd, h]
theorem gGd_mem (ds : List Gd) (i : Nat) (h : i < ds.length) : gGd ds i ∈ ds := by rw [gGd_lt ds i h]; exact List.getElem_mem h
theorem gGd_take_succ (ds : List Gd) (i : Nat) (h : i < ds.length) : ds.take (i + 1) = ds.take i ++ [gGd ds i] := by rw [List.take_succ_eq_append_getElem h, gGd_lt ds i h]
theorem gGd_set_same (ds : List Gd) (i : Nat) (d : Gd) (h : i < ds.length) : gGd (ds.set i d) i = d := by simp [gGd, h]
theorem gGd_set_ne (ds : List Gd) (i j : Nat) (d : Gd) (h : i ≠ j) : gGd (ds.set i d) j = gGd ds j := by simp [gGd, h]
theorem gGd_app_l (xs ys : List Gd) (i : Nat) (h : i < xs.length) : gGd (xs ++ ys) i = gGd xs i := by simp [gGd, List.getElem?_append_left h]
theorem gGd_app_r (xs ys : List Gd) (i : Nat) (h : xs.length ≤ i) : gGd (xs ++ ys) i = gGd ys (i - xs.length) := by simp [gGd, List.getElem?_append_right h]
theorem cGd_eq (ds : List Gd) : cGd ds = (ds.map Gd.cells).flatten := by rw [cGd, List.flatMap_def]
@[go_sem] theorem length_cGd (ds : List Gd) : (cGd ds).length = ds.length * 3 := (rsLen Gd.cells 3 (fun _ => rfl) ds)
@[go_sem] theorem cGd_nil : cGd [] = [] := rfl
@[go_sem] theorem cGd_append (xs ys : List Gd) : cGd xs ++ cGd ys = cGd (xs ++ ys) := by simp [cGd]
theorem cGd_one (d : Gd) : cGd [d] = d.cells := by simp [cGd]
@[go_sem] theorem cGd_snoc (xs : List Gd) (name : ByteArray) (fr : Int) (tw : Int) : cGd xs ++ [.sc (.string name), .sc (.int .i64 fr), .sc (.int .i64 tw)] = cGd (xs ++ [⟨name, fr, tw⟩]) := by simp [cGd, Gd.cells]
@[go_sem] theorem cGd_take (ds : List Gd) (n : Nat) : (cGd ds).take (n * 3) = cGd (ds.take n) := rsTake Gd.cells 3 (fun _ => rfl) ds n
@[go_sem] theorem cGd_take_all (ds : List Gd) (n : Nat) (h : ds.length * 3 ≤ n) : (cGd ds).take n = cGd ds := List.take_of_length_le (by rw [length_cGd]; exact h)
@[go_sem] theorem cGd_drop (ds : List Gd) (n : Nat) : (cGd ds).drop (n * 3) = cGd (ds.drop n) := rsDrop Gd.cells 3 (fun _ => rfl) ds n
@[go_sem high] theorem vPart_cGd (ds : List Gd) (i : Nat) (K : V → Prop) : vPart true 3 (cGd ds) (i * 3) K = grd (i < ds.length) (K (.agg [.sc (.string (gGd ds i).name), .sc (.int .i64 (gGd ds i).fr), .sc (.int .i64 (gGd ds i).tw)])) := rsPart Gd.cells 3 (fun _ => rfl) (by omega) ds i K
@[go_sem] theorem cGd_at (ds : List Gd) (n : Nat) (h : n < ds.length) : (cGd (ds.drop n)).take 3 = [.sc (.string (gGd ds n).name), .sc (.int .i64 (gGd ds n).fr), .sc (.int .i64 (gGd ds n).tw)] := by rw [List.drop_eq_getElem_cons h, gGd_lt ds n h]; rfl
@[go_sem] theorem cGd_at0 (ds : List Gd) (h : 0 < ds.length) : (cGd ds).take 3 = [.sc (.string (gGd ds 0).name), .sc (.int .i64 (gGd ds 0).fr), .sc (.int .i64 (gGd ds 0).tw)] := by cases ds with | nil => simp at h | cons x r => rfl
@[go_sem] theorem vAt_cGd_0 (ds : List Gd) (i : Nat) (K : V → Prop) : vAt (cGd ds) (i * 3) K = grd (i < ds.length) (K (.sc (.string (gGd ds i).name))) := rsAt Gd.cells 3 (fun _ => rfl) ds i 0 (by omega) (fun d => .sc (.string d.name)) (fun _ => rfl) K
@[go_sem] theorem wr_cGd_0 (ds : List Gd) (i : Nat) (x : ByteArray) (h : i < ds.length) : wr (cGd ds) (i * 3) [.sc (.string x)] = cGd (ds.set i {gGd ds i with name := x}) := rsWr Gd.cells 3 (fun _ => rfl) ds i 0 (by omega) h _ _ rfl
@[go_sem] theorem vAt_cGd_1 (ds : List Gd) (i : Nat) (K : V → Prop) : vAt (cGd ds) (i * 3 + 1) K = grd (i < ds.length) (K (.sc (.int .i64 (gGd ds i).fr))) := rsAt Gd.cells 3 (fun _ => rfl) ds i 1 (by omega) (fun d => .sc (.int .i64 d.fr)) (fun _ => rfl) K
@[go_sem] theorem wr_cGd_1 (ds : List Gd) (i : Nat) (x : Int) (h : i < ds.length) : wr (cGd ds) (i * 3 + 1) [.sc (.int .i64 x)] = cGd (ds.set i {gGd ds i with fr := x}) := rsWr Gd.cells 3 (fun _ => rfl) ds i 1 (by omega) h _ _ rfl
@[go_sem] theorem vAt_cGd_2 (ds : List Gd) (i : Nat) (K : V → Prop) : vAt (cGd ds) (i * 3 + 2) K = grd (i < ds.length) (K (.sc (.int .i64 (gGd ds i).tw))) := rsAt Gd.cells 3 (fun _ => rfl) ds i 2 (by omega) (fun d => .sc (.int .i64 d.tw)) (fun _ => rfl) K
@[go_sem] theorem wr_cGd_2 (ds : List Gd) (i : Nat) (x : Int) (h : i < ds.length) : wr (cGd ds) (i * 3 + 2) [.sc (.int .i64 x)] = cGd (ds.set i {gGd ds i with tw := x}) := rsWr Gd.cells 3 (fun _ => rfl) ds i 2 (by omega) h _ _ rfl
@[go_sem] theorem wr_cGd_0_set (ds : List Gd) (i i0 : Nat) (d : Gd) (x : ByteArray) (h : i < ds.length) : wr (cGd (ds.set i0 d)) (i * 3) [.sc (.string x)] = cGd ((ds.set i0 d).set i {gGd (ds.set i0 d) i with name := x}) := wr_cGd_0 _ _ _ (by rw [List.length_set]; exact h)
@[go_sem] theorem wr_cGd_1_set (ds : List Gd) (i i0 : Nat) (d : Gd) (x : Int) (h : i < ds.length) : wr (cGd (ds.set i0 d)) (i * 3 + 1) [.sc (.int .i64 x)] = cGd ((ds.set i0 d).set i {gGd (ds.set i0 d) i with fr := x}) := wr_cGd_1 _ _ _ (by rw [List.length_set]; exact h)
@[go_sem] theorem wr_cGd_2_set (ds : List Gd) (i i0 : Nat) (d : Gd) (x : Int) (h : i < ds.length) : wr (cGd (ds.set i0 d)) (i * 3 + 2) [.sc (.int .i64 x)] = cGd ((ds.set i0 d).set i {gGd (ds.set i0 d) i with tw := x}) := wr_cGd_2 _ _ _ (by rw [List.length_set]; exact h)
attribute [go_sem] gGd_set_same
@[go_sem] theorem wr_cGd_all (ds : List Gd) (i : Nat) (name : ByteArray) (fr : Int) (tw : Int) (h : i < ds.length) : wr (cGd ds) (i * 3) [.sc (.string name), .sc (.int .i64 fr), .sc (.int .i64 tw)] = cGd (ds.set i ⟨name, fr, tw⟩) := rsWrAll Gd.cells 3 (fun _ => rfl) ds i h ⟨name, fr, tw⟩
@[go_sem] theorem imm_cGd (ds : List Gd) : V.immL (cGd ds) = true := by induction ds with | nil => rfl | cons x xs ih => exact ih
@[go_sem] theorem one_cGd (ds : List Gd) : V.oneL (cGd ds) = true := by induction ds with | nil => rfl | cons x xs ih => exact ih
@[go_sem] theorem noref_cGd (ds : List Gd) : V.norefL (cGd ds) = true := by induction ds with | nil => rfl | cons x xs ih => exact ih
@[go_sem] theorem flat_cGd (ds : List Gd) : V.flatL (cGd ds) = true := by induction ds with | nil => rfl | cons x xs ih => exact ih
@[go_sem] theorem kill_cGd (p : Nat → Bool) (ds : List Gd) : V.killL p (cGd ds) = cGd ds := killL_noref p _ (noref_cGd ds)
@[go_sem] theorem frz_cGd (f : Nat → Option Ob) (ds : List Gd) : V.frzL f (cGd ds) = cGd ds := frzL_noref f _ (noref_cGd ds)
@[go_sem] theorem ren_cGd (g : Nat → Nat) (ds : List Gd) : V.renL g (cGd ds) = cGd ds := by induction ds with | nil => rfl | cons x xs ih => exact congrArg (x.cells ++ ·) ih
@[go_sem] theorem reps_cGd (n : Nat) : reps n [V.sc (.string ⟨#[]⟩), V.sc (.int .i64 0), V.sc (.int .i64 0)] = cGd (List.replicate n ⟨⟨#[]⟩, 0, 0⟩) := rsReps Gd.cells n ⟨⟨#[]⟩, 0, 0⟩
@[go_sem] theorem map_cGd_inj (xs ys : List Gd) : (cGd xs = cGd ys) = (xs = ys) := propext ⟨rsInj Gd.cells 3 (fun _ => rfl) (by omega) (fun a b h => by cases a; cases b; simpa [Gd.cells] using h) xs ys, fun h => by rw [h]⟩
@[go_sem] theorem cGd_rep0 (d : Gd) : cGd (List.replicate 0 d) = [] := rfl
@[go_sem] theorem wr_cGd_rep1 (d : Gd) (name : ByteArray) (fr : Int) (tw : Int) : wr (cGd (List.replicate 1 d)) 0 [.sc (.string name), .sc (.int .i64 fr), .sc (.int .i64 tw)] = cGd [⟨name, fr, tw⟩] := rfl
@[go_sem] theorem cGd_take1 (d : Gd) : (cGd [d]).take 3 = cGd [d] := rfl
structure Sh where
  g : Int
  a : Int
  b : Int
  deriving Inhabited, DecidableEq
def Sh.cells (d : Sh) : List V := [.sc (.int .i64 d.g), .sc (.int .i64 d.a), .sc (.int .i64 d.b)]
def cSh (ds : List Sh) : List V := ds.flatMap Sh.cells
def gSh (ds : List Sh) (i : Nat) : Sh := ds.getD i default
theorem gSh_lt (ds : List Sh) (i : Nat) (h : i < ds.length) : gSh ds i = ds[i] := by simp [gSh, h]
theorem gSh_mem (ds : List Sh) (i : Nat) (h : i < ds.length) : gSh ds i ∈ ds := by rw [gSh_lt ds i h]; exact List.getElem_mem h
theorem gSh_take_succ (ds : List Sh) (i : Nat) (h : i < ds.length) : ds.take (i + 1) = ds.take i ++ [gSh ds i] := by rw [List.take_succ_eq_append_getElem h, gSh_lt ds i h]
theorem gSh_set_same (ds : List Sh) (i : Nat) (d : Sh) (h : i < ds.length) : gSh (ds.set i d) i = d := by simp [gSh, h]
theorem gSh_set_ne (ds : List Sh) (i j : Nat) (d : Sh) (h : i ≠ j) : gSh (ds.set i d) j = gSh ds j := by simp [gSh, h]
theorem gSh_app_l (xs ys : List Sh) (i : Nat) (h : i < xs.length) : gSh (xs ++ ys) i = gSh xs i := by simp [gSh, List.getElem?_append_left h]
theorem gSh_app_r (xs ys : List Sh) (i : Nat) (h : xs.length ≤ i) : gSh (xs ++ ys) i = gSh ys (i - xs.length) := by simp [gSh, List.getElem?_append_right h]
theorem cSh_eq (ds : List Sh) : cSh ds = (ds.map Sh.cells).flatten := by rw [cSh, List.flatMap_def]
@[go_sem] theorem length_cSh (ds : List Sh) : (cSh ds).length = ds.length * 3 := (rsLen Sh.cells 3 (fun _ => rfl) ds)
@[go_sem] theorem cSh_nil : cSh [] = [] := rfl
@[go_sem] theorem cSh_append (xs ys : List Sh) : cSh xs ++ cSh ys = cSh (xs ++ ys) := by simp [cSh]
theorem cSh_one (d : Sh) : cSh [d] = d.cells := by simp [cSh]
@[go_sem] theorem cSh_snoc (xs : List Sh) (g : Int) (a : Int) (b : Int) : cSh xs ++ [.sc (.int .i64 g), .sc (.int .i64 a), .sc (.int .i64 b)] = cSh (xs ++ [⟨g, a, b⟩]) := by simp [cSh, Sh.cells]
@[go_sem] theorem cSh_take (ds : List Sh) (n : Nat) : (cSh ds).take (n * 3) = cSh (ds.take n) := rsTake Sh.cells 3 (fun _ => rfl) ds n
@[go_sem] theorem cSh_take_all (ds : List Sh) (n : Nat) (h : ds.length * 3 ≤ n) : (cSh ds).take n = cSh ds := List.take_of_length_le (by rw [length_cSh]; exact h)
@[go_sem] theorem cSh_drop (ds : List Sh) (n : Nat) : (cSh ds).drop (n * 3) = cSh (ds.drop n) := rsDrop Sh.cells 3 (fun _ => rfl) ds n
@[go_sem high] theorem vPart_cSh (ds : List Sh) (i : Nat) (K : V → Prop) : vPart true 3 (cSh ds) (i * 3) K = grd (i < ds.length) (K (.agg [.sc (.int .i64 (gSh ds i).g), .sc (.int .i64 (gSh ds i).a), .sc (.int .i64 (gSh ds i).b)])) := rsPart Sh.cells 3 (fun _ => rfl) (by omega) ds i K
@[go_sem] theorem cSh_at (ds : List Sh) (n : Nat) (h : n < ds.length) : (cSh (ds.drop n)).take 3 = [.sc (.int .i64 (gSh ds n).g), .sc (.int .i64 (gSh ds n).a), .sc (.int .i64 (gSh ds n).b)] := by rw [List.drop_eq_getElem_cons h, gSh_lt ds n h]; rfl
@[go_sem] theorem cSh_at0 (ds : List Sh) (h : 0 < ds.length) : (cSh ds).take 3 = [.sc (.int .i64 (gSh ds 0).g), .sc (.int .i64 (gSh ds 0).a), .sc (.int .i64 (gSh ds 0).b)] := by cases ds with | nil => simp at h | cons x r => rfl
@[go_sem] theorem vAt_cSh_0 (ds : List Sh) (i : Nat) (K : V → Prop) : vAt (cSh ds) (i * 3) K = grd (i < ds.length) (K (.sc (.int .i64 (gSh ds i).g))) := rsAt Sh.cells 3 (fun _ => rfl) ds i 0 (by omega) (fun d => .sc (.int .i64 d.g)) (fun _ => rfl) K
@[go_sem] theorem wr_cSh_0 (ds : List Sh) (i : Nat) (x : Int) (h : i < ds.length) : wr (cSh ds) (i * 3) [.sc (.int .i64 x)] = cSh (ds.set i {gSh ds i with g := x}) := rsWr Sh.cells 3 (fun _ => rfl) ds i 0 (by omega) h _ _ rfl
@[go_sem] theorem vAt_cSh_1 (ds : List Sh) (i : Nat) (K : V → Prop) : vAt (cSh ds) (i * 3 + 1) K = grd (i < ds.length) (K (.sc (.int .i64 (gSh ds i).a))) := rsAt Sh.cells 3 (fun _ => rfl) ds i 1 (by omega) (fun d => .sc (.int .i64 d.a)) (fun _ => rfl) K
@[go_sem] theorem wr_cSh_1 (ds : List Sh) (i : Nat) (x : Int) (h : i < ds.length) : wr (cSh ds) (i * 3 + 1) [.sc (.int .i64 x)] = cSh (ds.set i {gSh ds i with a := x}) := rsWr Sh.cells 3 (fun _ => rfl) ds i 1 (by omega) h _ _ rfl
@[go_sem] theorem vAt_cSh_2 (ds : List Sh) (i : Nat) (K : V → Prop) : vAt (cSh ds) (i * 3 + 2) K = grd (i < ds.length) (K (.sc (.int .i64 (gSh ds i).b))) := rsAt Sh.cells 3 (fun _ => rfl) ds i 2 (by omega) (fun d => .sc (.int .i64 d.b)) (fun _ => rfl) K
@[go_sem] theorem wr_cSh_2 (ds : List Sh) (i : Nat) (x : Int) (h : i < ds.length) : wr (cSh ds) (i * 3 + 2) [.sc (.int .i64 x)] = cSh (ds.set i {gSh ds i with b := x}) := rsWr Sh.cells 3 (fun _ => rfl) ds i 2 (by omega) h _ _ rfl
@[go_sem] theorem wr_cSh_0_set (ds : List Sh) (i i0 : Nat) (d : Sh) (x : Int) (h : i < ds.length) : wr (cSh (ds.set i0 d)) (i * 3) [.sc (.int .i64 x)] = cSh ((ds.set i0 d).set i {gSh (ds.set i0 d) i with g := x}) := wr_cSh_0 _ _ _ (by rw [List.length_set]; exact h)
@[go_sem] theorem wr_cSh_1_set (ds : List Sh) (i i0 : Nat) (d : Sh) (x : Int) (h : i < ds.length) : wr (cSh (ds.set i0 d)) (i * 3 + 1) [.sc (.int .i64 x)] = cSh ((ds.set i0 d).set i {gSh (ds.set i0 d) i with a := x}) := wr_cSh_1 _ _ _ (by rw [List.length_set]; exact h)
@[go_sem] theorem wr_cSh_2_set (ds : List Sh) (i i0 : Nat) (d : Sh) (x : Int) (h : i < ds.length) : wr (cSh (ds.set i0 d)) (i * 3 + 2) [.sc (.int .i64 x)] = cSh ((ds.set i0 d).set i {gSh (ds.set i0 d) i with b := x}) := wr_cSh_2 _ _ _ (by rw [List.length_set]; exact h)
attribute [go_sem] gSh_set_same
@[go_sem] theorem wr_cSh_all (ds : List Sh) (i : Nat) (g : Int) (a : Int) (b : Int) (h : i < ds.length) : wr (cSh ds) (i * 3) [.sc (.int .i64 g), .sc (.int .i64 a), .sc (.int .i64 b)] = cSh (ds.set i ⟨g, a, b⟩) := rsWrAll Sh.cells 3 (fun _ => rfl) ds i h ⟨g, a, b⟩
@[go_sem] theorem imm_cSh (ds : List Sh) : V.immL (cSh ds) = true := by induction ds with | nil => rfl | cons x xs ih => exact ih
@[go_sem] theorem one_cSh (ds : List Sh) : V.oneL (cSh ds) = true := by induction ds with | nil => rfl | cons x xs ih => exact ih
@[go_sem] theorem noref_cSh (ds : List Sh) : V.norefL (cSh ds) = true := by induction ds with | nil => rfl | cons x xs ih => exact ih
@[go_sem] theorem flat_cSh (ds : List Sh) : V.flatL (cSh ds) = true := by induction ds with | nil => rfl | cons x xs ih => exact ih
@[go_sem] theorem kill_cSh (p : Nat → Bool) (ds : List Sh) : V.killL p (cSh ds) = cSh ds := killL_noref p _ (noref_cSh ds)
@[go_sem] theorem frz_cSh (f : Nat → Option Ob) (ds : List Sh) : V.frzL f (cSh ds) = cSh ds := frzL_noref f _ (noref_cSh ds)
@[go_sem] theorem ren_cSh (g : Nat → Nat) (ds : List Sh) : V.renL g (cSh ds) = cSh ds := by induction ds with | nil => rfl | cons x xs ih => exact congrArg (x.cells ++ ·) ih
@[go_sem] theorem reps_cSh (n : Nat) : reps n [V.sc (.int .i64 0), V.sc (.int .i64 0), V.sc (.int .i64 0)] = cSh (List.replicate n ⟨0, 0, 0⟩) := rsReps Sh.cells n ⟨0, 0, 0⟩
@[go_sem] theorem map_cSh_inj (xs ys : List Sh) : (cSh xs = cSh ys) = (xs = ys) := propext ⟨rsInj Sh.cells 3 (fun _ => rfl) (by omega) (fun a b h => by cases a; cases b; simpa [Sh.cells] using h) xs ys, fun h => by rw [h]⟩
@[go_sem] theorem cSh_rep0 (d : Sh) : cSh (List.replicate 0 d) = [] := rfl
@[go_sem] theorem wr_cSh_rep1 (d : Sh) (g : Int) (a : Int) (b : Int) : wr (cSh (List.replicate 1 d)) 0 [.sc (.int .i64 g), .sc (.int .i64 a), .sc (.int .i64 b)] = cSh [⟨g, a, b⟩] := rfl
@[go_sem] theorem cSh_take1 (d : Sh) : (cSh [d]).take 3 = cSh [d] := rfl
def nB (s : ByteArray) : Bool := nameB s.data.toList
def gdB (g : Gd) : Bool := nB g.name && decide (0 ≤ g.fr ∧ g.fr < g.tw ∧ g.tw ≤ 300000)
def okGi (ds : List Gd) (i : Nat) : Prop := gdB (gGd ds i) = true ∧ ∀ j, j < i → (gGd ds j).name ≠ (gGd ds i).name
def okGb (ds : List Gd) (i : Nat) : Bool := gdB (gGd ds i) && decide (∀ j, j < i → (gGd ds j).name ≠ (gGd ds i).name)
def okG (ds : List Gd) : Bool := decide (∀ i, i < ds.length → okGb ds i = true) && decide (ds.length ≤ 30)
theorem okGi_iff (ds : List Gd) (i : Nat) : okGb ds i = true ↔ okGi ds i := by
  unfold okGb okGi
  rw [Bool.and_eq_true, decide_eq_true_eq]
theorem okG_no {ds : List Gd} {i : Nat} (hi : i < ds.length) (h : ¬ okGi ds i) : okG ds = false := by
  unfold okG
  rw [Bool.and_eq_false_iff]
  exact .inl (decide_eq_false fun hh => h ((okGi_iff ds i).1 (hh i hi)))
theorem okG_yes {ds : List Gd} (h : ∀ i, i < ds.length → okGi ds i) : okG ds = decide (ds.length ≤ 30) := by
  unfold okG
  rw [decide_eq_true (fun i hi => (okGi_iff ds i).2 (h i hi)), Bool.true_and]
theorem okG_len {ds : List Gd} (h : okG ds = true) : ds.length ≤ 30 := by
  unfold okG at h
  rw [Bool.and_eq_true, decide_eq_true_eq, decide_eq_true_eq] at h
  exact h.2
/-! shifts -/
def dyP (n : Int) : Prop := 0 ≤ n ∧ n ≤ 100000
def shB (s : Sh) : Bool := decide (0 ≤ s.a ∧ s.a ≤ 100000) && decide (0 ≤ s.b ∧ s.b ≤ 100000)
def waC (ds : List Gd) (sh : List Sh) : Int := if okG ds = true then if (decide (sh.length ≤ 40) && sh.all shB) = true then 0 else 2 else 1
structure ShP (sh : List Sh) : Prop where
  n : sh.length ≤ 40
  d : ∀ i, i < sh.length → (0 ≤ (gSh sh i).a ∧ (gSh sh i).a ≤ 100000) ∧ (0 ≤ (gSh sh i).b ∧ (gSh sh i).b ≤ 100000)
theorem waC_0 {ds : List Gd} {sh : List Sh} (h : waC ds sh = 0) : okG ds = true ∧ ShP sh := by
  unfold waC at h
  split at h
  · rename_i h1
    split at h
    · rename_i h2
      rw [Bool.and_eq_true, decide_eq_true_eq, List.all_eq_true] at h2
      refine ⟨h1, h2.1, fun i hi => ?_⟩
      have := h2.2 _ (gSh_mem sh i hi)
      unfold shB at this
      rw [Bool.and_eq_true, decide_eq_true_eq, decide_eq_true_eq] at this
      exact this
    · omega
  · omega
theorem waC_of {ds : List Gd} {sh : List Sh} (h1 : okG ds = true) (h : ShP sh) : waC ds sh = 0 := by
  unfold waC
  rw [if_pos h1, if_pos]
  rw [Bool.and_eq_true, decide_eq_true_eq, List.all_eq_true]
  refine ⟨h.n, fun x hx => ?_⟩
  obtain ⟨i, hi, e⟩ := List.mem_iff_getElem.1 hx
  have := h.d i hi
  rw [gSh_lt sh i hi, e] at this
  unfold shB
  rw [Bool.and_eq_true, decide_eq_true_eq, decide_eq_true_eq]
  exact this
theorem waC_cases (ds : List Gd) (sh : List Sh) : (okG ds = false ∧ waC ds sh = 1) ∨ (okG ds = true ∧ (decide (sh.length ≤ 40) && sh.all shB) = false ∧ waC ds sh = 2) ∨ (okG ds = true ∧ (decide (sh.length ≤ 40) && sh.all shB) = true ∧ waC ds sh = 0) := by
  unfold waC
  cases h1 : okG ds <;> cases h2 : (decide (sh.length ≤ 40) && sh.all shB) <;> simp
/-- a shift is wrong -/
def wrP (n : Nat) (sh : List Sh) (i : Nat) (rest : Int) : Prop := ¬ (0 ≤ (gSh sh i).g ∧ (gSh sh i).g < n) ∨ (gSh sh i).b ≤ (gSh sh i).a ∨ ∃ k, k < i ∧ (gSh sh k).g = (gSh sh i).g ∧ (gSh sh k).a < (gSh sh i).b + rest ∧ (gSh sh i).a < (gSh sh k).b + rest
def FaV (n : Nat) (sh : List Sh) (rest v : Int) : Prop := (∃ i : Nat, v = i ∧ i < sh.length ∧ wrP n sh i rest ∧ ∀ j, j < i → ¬ wrP n sh j rest) ∨ (v = -1 ∧ ∀ j, j < sh.length → ¬ wrP n sh j rest)
theorem FaV.uniq {n : Nat} {sh : List Sh} {rest v w : Int} (h : FaV n sh rest v) (k : FaV n sh rest w) : v = w := by
  rcases h with ⟨i, rfl, h1, h2, h3⟩ | ⟨rfl, h1⟩ <;> rcases k with ⟨j, rfl, k1, k2, k3⟩ | ⟨rfl, k1⟩
  · by_cases e : i < j
    · exact absurd h2 (k3 i e)
    · by_cases e2 : j < i
      · exact absurd k2 (h3 j e2)
      · omega
  · exact absurd h2 (k1 i h1)
  · exact absurd k2 (h1 j k1)
  · rfl
theorem FaV.none {n : Nat} {sh : List Sh} {rest v : Int} (h : FaV n sh rest v) : (v < 0 ↔ ∀ j, j < sh.length → ¬ wrP n sh j rest) ∧ -1 ≤ v ∧ v < sh.length := by
  rcases h with ⟨i, rfl, h1, h2, h3⟩ | ⟨rfl, h1⟩
  · exact ⟨⟨fun h => by omega, fun h => absurd h2 (h i h1)⟩, by omega, by omega⟩
  · exact ⟨⟨fun _ => h1, fun _ => by omega⟩, by omega, by omega⟩
theorem FaV.exists (n : Nat) (sh : List Sh) (rest : Int) : ∃ v, FaV n sh rest v := by
  have key : ∀ k, k ≤ sh.length → (∃ i : Nat, i < k ∧ wrP n sh i rest ∧ ∀ j, j < i → ¬ wrP n sh j rest) ∨ ∀ j, j < k → ¬ wrP n sh j rest := by
    intro k
    induction k with
    | zero => intro _; exact .inr fun j hj => by omega
    | succ k ih =>
      intro hk
      rcases ih (by omega) with ⟨i, h1, h2, h3⟩ | h
      · exact .inl ⟨i, by omega, h2, h3⟩
      · by_cases g : wrP n sh k rest
        · exact .inl ⟨k, by omega, g, h⟩
        · exact .inr fun j hj => by
            by_cases e : j = k
            · subst e; exact g
            · exact h j (by omega)
  rcases key sh.length (Nat.le_refl _) with ⟨i, h1, h2, h3⟩ | h
  · exact ⟨i, .inl ⟨i, rfl, h1, h2, h3⟩⟩
  · exact ⟨-1, .inr ⟨rfl, h⟩⟩
def FaN (n : Nat) (sh : List Sh) : Prop := ∀ j, j < sh.length → ¬ wrP n sh j 0
def wrB (n : Nat) (sh : List Sh) (i : Nat) (rest : Int) : Bool := !decide (0 ≤ (gSh sh i).g ∧ (gSh sh i).g < n) || (decide ((gSh sh i).b ≤ (gSh sh i).a) || (List.range i).any fun k => decide ((gSh sh k).g = (gSh sh i).g ∧ (gSh sh k).a < (gSh sh i).b + rest ∧ (gSh sh i).a < (gSh sh k).b + rest))
theorem wrB_iff (n : Nat) (sh : List Sh) (i : Nat) (rest : Int) : wrB n sh i rest = true ↔ wrP n sh i rest := by
  unfold wrB wrP
  simp only [Bool.or_eq_true, Bool.not_eq_true', decide_eq_false_iff_not, decide_eq_true_eq, List.any_eq_true, List.mem_range]
def faB (n : Nat) (sh : List Sh) : Bool := (List.range sh.length).all fun j => !wrB n sh j 0
theorem faB_iff (n : Nat) (sh : List Sh) : faB n sh = true ↔ FaN n sh := by
  unfold faB FaN
  simp only [List.all_eq_true, List.mem_range, Bool.not_eq_true']
  constructor
  · intro h j hj hw
    have := h j hj
    rw [(wrB_iff n sh j 0).2 hw] at this
    cases this
  · intro h j hj
    cases e : wrB n sh j 0
    · rfl
    · exact absurd ((wrB_iff n sh j 0).1 e) (h j hj)
def goC (ds : List Gd) (sh : List Sh) : Int := if waC ds sh = 0 then if faB ds.length sh = true then 0 else 6 else waC ds sh
theorem goC_n {ds : List Gd} {sh : List Sh} (h : waC ds sh ≠ 0) : goC ds sh = waC ds sh := by unfold goC; rw [if_neg h]
theorem goC_6 {ds : List Gd} {sh : List Sh} (h : waC ds sh = 0) (h2 : ¬ FaN ds.length sh) : goC ds sh = 6 := by unfold goC; rw [if_pos h, if_neg (fun e => h2 ((faB_iff _ _).1 e))]
theorem goC_0 {ds : List Gd} {sh : List Sh} (h : waC ds sh = 0) (h2 : FaN ds.length sh) : goC ds sh = 0 := by unfold goC; rw [if_pos h, if_pos ((faB_iff _ _).2 h2)]
theorem goC_z {ds : List Gd} {sh : List Sh} (h : goC ds sh = 0) : waC ds sh = 0 ∧ FaN ds.length sh := by
  by_cases h1 : waC ds sh = 0
  · by_cases h2 : FaN ds.length sh
    · exact ⟨h1, h2⟩
    · rw [goC_6 h1 h2] at h; omega
  · rw [goC_n h1] at h; exact absurd h h1
theorem FaN.g {n : Nat} {sh : List Sh} (h : FaN n sh) (i : Nat) (hi : i < sh.length) : (0 ≤ (gSh sh i).g ∧ (gSh sh i).g < n) ∧ (gSh sh i).a < (gSh sh i).b := by
  have := h i hi
  unfold wrP at this
  simp only [not_or, Classical.not_not] at this
  omega
/-- hours of guards -/
def hoV (ds : List Gd) (sh : List Sh) : List Int := if goC ds sh = 0 then acc Sh.g (fun s => s.b - s.a) ds.length sh else []
theorem ac_take (n : Nat) (sh : List Sh) (k : Nat) (h : k < sh.length) : acc Sh.g (fun s => s.b - s.a) n (sh.take (k + 1)) = (acc Sh.g (fun s => s.b - s.a) n (sh.take k)).set (gSh sh k).g.toNat (IntKind.wrap .i64 (gi (acc Sh.g (fun s => s.b - s.a) n (sh.take k)) (gSh sh k).g.toNat + ((gSh sh k).b - (gSh sh k).a))) := by
  rw [gSh_take_succ sh k h, acc_snoc]
/-- who watches at an hour -/
def onB (sh : List Sh) (hour : Int) (i : Nat) : Bool := sh.any fun s => decide (s.g = (i : Int)) && decide (s.a ≤ hour ∧ hour ≤ s.b - 1)
def onL (n : Nat) (sh : List Sh) (hour : Int) : List Int := ixs n (onB sh hour)
theorem ixs_memW (n : Nat) (q : Nat → Bool) (x : Int) : x ∈ ixs n q ↔ ∃ i : Nat, i < n ∧ q i = true ∧ x = i := by
  simp only [ixs, List.mem_map, List.mem_filter, List.mem_range]
  constructor
  · rintro ⟨i, ⟨h1, h2⟩, rfl⟩; exact ⟨i, h1, h2, rfl⟩
  · rintro ⟨i, h1, h2, rfl⟩; exact ⟨i, ⟨h1, h2⟩, rfl⟩
theorem ixs_srt (n : Nat) (q : Nat → Bool) : (ixs n q).Pairwise (· < ·) := by
  induction n with
  | zero => simp [ixs]
  | succ n ih =>
    cases h : q n with
    | true =>
      rw [ixs_yes h, List.pairwise_append]
      refine ⟨ih, by simp, fun a ha b hb => ?_⟩
      obtain ⟨i, h1, _, rfl⟩ := (ixs_memW n q a).1 ha
      rw [List.mem_singleton.1 hb]; omega
    | false => rw [ixs_no h]; exact ih
/-- the specification's list, shift by shift -/
def onS (sh : List Sh) (hour : Int) : Nat → List Int
  | 0 => []
  | k + 1 => if (gSh sh k).a ≤ hour ∧ hour ≤ (gSh sh k).b - 1 then putI (gSh sh k).g (onS sh hour k) else onS sh hour k
theorem onS_ok (sh : List Sh) (hour : Int) : ∀ k, (onS sh hour k).Pairwise (· < ·) ∧ (onS sh hour k).length ≤ k ∧ ∀ z, z ∈ onS sh hour k ↔ ∃ j, j < k ∧ (gSh sh j).g = z ∧ (gSh sh j).a ≤ hour ∧ hour ≤ (gSh sh j).b - 1
  | 0 => ⟨by simp [onS], by simp [onS], fun z => by simp [onS]⟩
  | k + 1 => by
    obtain ⟨h1, h2, h3⟩ := onS_ok sh hour k
    simp only [onS]
    split
    · rename_i g
      refine ⟨putI_srt _ _ h1, by have := putI_len (gSh sh k).g (onS sh hour k); omega, fun z => ?_⟩
      rw [putI_mem, h3]
      constructor
      · rintro (rfl | ⟨j, q1, q2⟩)
        · exact ⟨k, by omega, rfl, g⟩
        · exact ⟨j, by omega, q2⟩
      · rintro ⟨j, q1, q2, q3⟩
        by_cases e : j = k
        · subst e; exact .inl q2.symm
        · exact .inr ⟨j, by omega, q2, q3⟩
    · rename_i g
      refine ⟨h1, by omega, fun z => ?_⟩
      rw [h3]
      constructor
      · rintro ⟨j, q1, q2⟩; exact ⟨j, by omega, q2⟩
      · rintro ⟨j, q1, q2, q3⟩
        by_cases e : j = k
        · subst e; exact absurd q3 g
        · exact ⟨j, by omega, q2, q3⟩
theorem onS_L {n : Nat} {sh : List Sh} (h : FaN n sh) (hour : Int) : onS sh hour sh.length = onL n sh hour := by
  obtain ⟨h1, h2, h3⟩ := onS_ok sh hour sh.length
  refine srt_ext h1 (ixs_srt _ _) fun z => ?_
  rw [h3, onL, ixs_memW]
  constructor
  · rintro ⟨j, q1, q2, q3⟩
    have hg := (h.g j q1).1
    refine ⟨z.toNat, by omega, ?_, by omega⟩
    unfold onB
    rw [List.any_eq_true]
    refine ⟨gSh sh j, gSh_mem sh j q1, ?_⟩
    rw [Bool.and_eq_true, decide_eq_true_eq, decide_eq_true_eq]
    exact ⟨by omega, q3⟩
  · rintro ⟨i, q1, q2, rfl⟩
    unfold onB at q2
    rw [List.any_eq_true] at q2
    obtain ⟨s, hs, q3⟩ := q2
    rw [Bool.and_eq_true, decide_eq_true_eq, decide_eq_true_eq] at q3
    obtain ⟨j, hj, e⟩ := List.mem_iff_getElem.1 hs
    exact ⟨j, hj, by rw [gSh_lt sh j hj, e]; exact q3.1, by rw [gSh_lt sh j hj, e]; exact q3.2⟩
theorem onL_len (n : Nat) (sh : List Sh) (hour : Int) : (onL n sh hour).length ≤ n := ixs_len _ _
def atC (ds : List Gd) (sh : List Sh) (hour : Int) : Int := if waC ds sh = 0 then if 0 ≤ hour ∧ hour ≤ 100000 then goC ds sh else 2 else waC ds sh
def atV (ds : List Gd) (sh : List Sh) (hour : Int) : List Int := if atC ds sh hour = 0 then onL ds.length sh hour else []
def unR (fr tw least : Int) : Prop := (0 ≤ fr ∧ fr ≤ 100000) ∧ (0 ≤ tw ∧ tw ≤ 100000) ∧ (0 ≤ tw - fr ∧ tw - fr ≤ 200) ∧ (1 ≤ least ∧ least ≤ 30)
instance (fr tw least : Int) : Decidable (unR fr tw least) := by unfold unR; infer_instance
def unC (ds : List Gd) (sh : List Sh) (fr tw least : Int) : Int := if waC ds sh = 0 then if unR fr tw least then goC ds sh else 2 else waC ds sh
/-- hours with too few guards -/
def unK (n : Nat) (sh : List Sh) (fr least : Int) : Nat → List Int
  | 0 => []
  | k + 1 => if ((onL n sh (fr + k)).length : Int) < least then unK n sh fr least k ++ [fr + k] else unK n sh fr least k
theorem unK_len (n : Nat) (sh : List Sh) (fr least : Int) : ∀ k, (unK n sh fr least k).length ≤ k
  | 0 => by simp [unK]
  | k + 1 => by
    have := unK_len n sh fr least k
    simp only [unK]; split <;> simp <;> omega
theorem unK_mem (n : Nat) (sh : List Sh) (fr least : Int) : ∀ k z, z ∈ unK n sh fr least k ↔ (fr ≤ z ∧ z < fr + k) ∧ ((onL n sh z).length : Int) < least
  | 0, z => by simp [unK]; omega
  | k + 1, z => by
    have ih := unK_mem n sh fr least k z
    simp only [unK]
    split
    · rename_i g
      rw [List.mem_append, List.mem_singleton, ih]
      constructor
      · rintro (⟨h1, h2⟩ | rfl)
        · exact ⟨by omega, h2⟩
        · exact ⟨by omega, g⟩
      · rintro ⟨h1, h2⟩
        by_cases e : z = fr + k
        · exact .inr e
        · exact .inl ⟨by omega, h2⟩
    · rename_i g
      rw [ih]
      constructor
      · rintro ⟨h1, h2⟩; exact ⟨by omega, h2⟩
      · rintro ⟨h1, h2⟩
        by_cases e : z = fr + k
        · subst e; exact absurd h2 g
        · exact ⟨by omega, h2⟩
def unV (ds : List Gd) (sh : List Sh) (fr tw least : Int) : List Int := if unC ds sh fr tw least = 0 then unK ds.length sh fr least (tw - fr).toNat else []
/-! plans -/
/-- who is free first -/
def bwK (free : List Int) (at_ : Int) : Nat → Int
  | 0 => -1
  | i + 1 => if gi free i ≤ at_ ∧ (bwK free at_ i < 0 ∨ gi free i < gi free (bwK free at_ i).toNat) then i else bwK free at_ i
theorem bwK_bd (free : List Int) (at_ : Int) : ∀ n, bwK free at_ n = -1 ∨ (0 ≤ bwK free at_ n ∧ bwK free at_ n < n ∧ gi free (bwK free at_ n).toNat ≤ at_)
  | 0 => .inl rfl
  | n + 1 => by
    simp only [bwK]
    split
    · rename_i g
      exact .inr ⟨by omega, by omega, by rw [Int.toNat_natCast]; exact g.1⟩
    · rcases bwK_bd free at_ n with h | ⟨h1, h2, h3⟩
      · exact .inl h
      · exact .inr ⟨h1, by omega, h3⟩
structure Pw where
  t : Int
  sh : List Sh
  free : List Int
def pwB (n : Nat) (s : Pw) : Int := bwK s.free s.t n
def pwE (tw long : Int) (s : Pw) : Int := if s.t + long < tw then s.t + long else tw
def pwN (n : Nat) (tw long rest : Int) (s : Pw) : Pw := ⟨pwE tw long s, s.sh ++ [⟨pwB n s, s.t, pwE tw long s⟩], s.free.set (pwB n s).toNat (pwE tw long s + rest)⟩
def pwR (n : Nat) (tw long rest : Int) : Nat → Pw → List Sh × Int
  | 0, _ => ([], 0)
  | f + 1, s => if s.t < tw then if pwB n s < 0 then ([], 3) else if s.sh.length = 40 then ([], 5) else pwR n tw long rest f (pwN n tw long rest s) else (s.sh, 0)
structure PwOk (n : Nat) (fr tw long rest : Int) (s : Pw) : Prop where
  len : s.free.length = n
  n40 : s.sh.length ≤ 40
  tb : fr ≤ s.t ∧ s.t ≤ tw
  fb : ∀ i, i < n → 0 ≤ gi s.free i ∧ gi s.free i ≤ 200000
  d : ∀ i, i < s.sh.length → (fr ≤ (gSh s.sh i).a ∧ (gSh s.sh i).a < (gSh s.sh i).b ∧ (gSh s.sh i).b ≤ s.t) ∧ (0 ≤ (gSh s.sh i).g ∧ (gSh s.sh i).g < n) ∧ (gSh s.sh i).b + rest ≤ gi s.free (gSh s.sh i).g.toNat
  no : ∀ i k, k < i → i < s.sh.length → (gSh s.sh k).g = (gSh s.sh i).g → (gSh s.sh k).b + rest ≤ (gSh s.sh i).a
  cov : ∀ h, fr ≤ h → h < s.t → ∃ i, i < s.sh.length ∧ (gSh s.sh i).a ≤ h ∧ h < (gSh s.sh i).b
theorem pwE_bd {tw long : Int} {s : Pw} (hl : 1 ≤ long) (h : s.t < tw) : s.t < pwE tw long s ∧ pwE tw long s ≤ tw ∧ pwE tw long s ≤ s.t + long := by unfold pwE; split <;> omega
theorem PwOk.next {n : Nat} {fr tw long rest : Int} {s : Pw} (h : PwOk n fr tw long rest s) (hfr : 0 ≤ fr) (htw : tw ≤ 100000) (hl : 1 ≤ long) (hr : 0 ≤ rest ∧ rest ≤ 100) (ht : s.t < tw) (hb : ¬ pwB n s < 0) (h40 : s.sh.length ≠ 40) : PwOk n fr tw long rest (pwN n tw long rest s) := by
  have he := pwE_bd hl ht
  have hb2 := (bwK_bd s.free s.t n).resolve_left (by unfold pwB at hb; omega)
  change 0 ≤ pwB n s ∧ pwB n s < n ∧ gi s.free (pwB n s).toNat ≤ s.t at hb2
  have hlen := h.len
  have h40' := h.n40
  have htb := h.tb
  unfold pwN
  generalize pwE tw long s = e at *
  generalize pwB n s = b at *
  have hset : ∀ i : Nat, i < n → gi (s.free.set b.toNat (e + rest)) i = if i = b.toNat then e + rest else gi s.free i := fun i hi => by
    split
    · rename_i q; subst q; exact gi_set_same _ _ _ (by omega)
    · rename_i q; exact gi_set_ne _ _ _ _ (fun e => q e.symm)
  have hold : ∀ i, i < s.sh.length → gSh (s.sh ++ [⟨b, s.t, e⟩]) i = gSh s.sh i := fun i hi => gSh_app_l _ _ _ hi
  have hnew : gSh (s.sh ++ [⟨b, s.t, e⟩]) s.sh.length = ⟨b, s.t, e⟩ := by rw [gSh_app_r _ _ _ (Nat.le_refl _), Nat.sub_self]; rfl
  refine ⟨by simp [hlen], by simp; omega, ⟨by show fr ≤ e; omega, he.2.1⟩, fun i hi => ?_, fun i hi => ?_, fun i k hk hi hg => ?_, fun q h1 h2 => ?_⟩
  · show 0 ≤ gi (s.free.set b.toNat (e + rest)) i ∧ gi (s.free.set b.toNat (e + rest)) i ≤ 200000
    rw [hset i hi]
    have := h.fb i hi
    split <;> omega
  · simp only [List.length_append, List.length_singleton] at hi
    by_cases q : i < s.sh.length
    · have hd := h.d i q
      simp only [hold i q]
      rw [hset _ (by omega)]
      refine ⟨by omega, hd.2.1, ?_⟩
      split
      · omega
      · exact hd.2.2
    · obtain rfl : i = s.sh.length := by omega
      simp only [hnew]
      rw [hset _ (by omega), if_pos rfl]
      exact ⟨by omega, by omega, Int.le_refl _⟩
  · simp only [List.length_append, List.length_singleton] at hi
    by_cases q : i < s.sh.length
    · simp only [hold i q, hold k (by omega)] at hg ⊢
      exact h.no i k hk q hg
    · obtain rfl : i = s.sh.length := by omega
      simp only [hnew, hold k hk] at hg ⊢
      have hd := h.d k hk
      rw [hg] at hd
      omega
  · by_cases q2 : q < s.t
    · obtain ⟨i, g1, g2, g3⟩ := h.cov q h1 q2
      exact ⟨i, by simp; omega, by simp only [hold i g1]; omega, by simp only [hold i g1]; omega⟩
    · exact ⟨s.sh.length, by simp, by simp only [hnew]; omega, by simp only [hnew]; exact h2⟩
theorem PwOk.zero {n : Nat} {fr tw long rest : Int} (hft : fr ≤ tw) : PwOk n fr tw long rest ⟨fr, [], List.replicate n 0⟩ := by
  have hz : ∀ i, gi (List.replicate n (0 : Int)) i = 0 := fun i => gi_rep0 n i
  exact ⟨by simp, by simp, ⟨Int.le_refl _, hft⟩, fun i hi => by simp only [hz]; omega, fun i hi => by simp at hi, fun i k _ hi => by simp at hi, fun h h1 h2 => by simp only at h2; omega⟩
/-- a plan has no fault and covers all hours -/
theorem PwOk.end {n : Nat} {fr tw long rest : Int} {s : Pw} (h : PwOk n fr tw long rest s) (hfr : 0 ≤ fr) (htw : tw ≤ 100000) (hr : 0 ≤ rest) (ht : ¬ s.t < tw) : ShP s.sh ∧ (∀ j, j < s.sh.length → ¬ wrP n s.sh j rest) ∧ FaN n s.sh ∧ ∀ q, fr ≤ q → q < tw → 1 ≤ (onL n s.sh q).length := by
  have htb := h.tb
  have hno : ∀ r, 0 ≤ r → r ≤ rest → ∀ j, j < s.sh.length → ¬ wrP n s.sh j r := by
    intro r hr0 hrr j hj hw
    have hd := h.d j hj
    unfold wrP at hw
    rcases hw with hw | hw | ⟨k, h1, h2, h3, h4⟩
    · omega
    · omega
    · have := h.no j k h1 hj h2
      omega
  refine ⟨⟨h.n40, fun i hi => by have := h.d i hi; omega⟩, hno rest hr (Int.le_refl _), hno 0 (Int.le_refl _) hr, fun q h1 h2 => ?_⟩
  obtain ⟨i, g1, g2, g3⟩ := h.cov q h1 (by omega)
  have hd := h.d i g1
  refine List.length_pos_of_mem (a := (gSh s.sh i).g) ((ixs_memW _ _ _).2 ⟨(gSh s.sh i).g.toNat, by omega, ?_, by omega⟩)
  unfold onB
  rw [List.any_eq_true]
  refine ⟨gSh s.sh i, gSh_mem s.sh i g1, ?_⟩
  rw [Bool.and_eq_true, decide_eq_true_eq, decide_eq_true_eq]
  omega
end Go.Proofs.YtfhckmlmfigfjaaGreatDoor

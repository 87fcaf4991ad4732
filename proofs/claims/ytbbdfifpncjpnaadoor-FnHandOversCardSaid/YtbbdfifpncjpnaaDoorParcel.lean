/- parcels: the drawn lists -/
import Derived.Test.YtbbdfifpncjpnaaDoorSrc2
set_option linter.unusedVariables false
set_option linter.unusedSimpArgs false
namespace Go.Proofs.YtbbdfifpncjpnaaDoor
open Go.AG

structure Pc where
  id : Int
  owner : Int
  area : Int
  cls : Int
  deriving Inhabited, DecidableEq
def Pc.cells (d : Pc) : List V := [.sc (.int .i64 d.id), .sc (.int .i64 d.owner), .sc (.int .i64 d.area), .sc (.int .i64 d.cls)]
def cPc (ds : List Pc) : List V := ds.flatMap Pc.cells
def gPc (ds : List Pc) (i : Nat) : Pc := ds.getD i default
theorem gPc_lt (ds : List Pc) (i : Nat) (h : i < ds.length) : gPc ds i = ds[i] := by simp [gPc, h]
theorem gPc_mem (ds : List Pc) (i : Nat) (h : i < ds.length) : gPc ds i ∈ ds := by rw [gPc_lt ds i h]; exact List.getElem_mem h
theorem gPc_take_succ (ds : List Pc) (i : Nat) (h : i < ds.length) : ds.take (i + 1) = ds.take i ++ [gPc ds i] := by rw [List.take_succ_eq_append_getElem h, gPc_lt ds i h]
theorem gPc_set_same (ds : List Pc) (i : Nat) (d : Pc) (h : i < ds.length) : gPc (ds.set i d) i = d := by simp [gPc, h]
theorem gPc_set_ne (ds : List Pc) (i j : Nat) (d : Pc) (h : i ≠ j) : gPc (ds.set i d) j = gPc ds j := by simp [gPc, h]
theorem gPc_app_l (xs ys : List Pc) (i : Nat) (h : i < xs.length) : gPc (xs ++ ys) i = gPc xs i := by simp [gPc, List.getElem?_append_left h]
theorem gPc_app_r (xs ys : List Pc) (i : Nat) (h : xs.length ≤ i) : gPc (xs ++ ys) i = gPc ys (i - xs.length) := by simp [gPc, List.getElem?_append_right h]
theorem cPc_eq (ds : List Pc) : cPc ds = (ds.map Pc.cells).flatten := by rw [cPc, List.flatMap_def]
@[go_sem] theorem length_cPc (ds : List Pc) : (cPc ds).length = ds.length * 4 := (rsLen Pc.cells 4 (fun _ => rfl) ds)
@[go_sem] theorem cPc_nil : cPc [] = [] := rfl
@[go_sem] theorem cPc_append (xs ys : List Pc) : cPc xs ++ cPc ys = cPc (xs ++ ys) := by simp [cPc]
theorem cPc_one (d : Pc) : cPc [d] = d.cells := by simp [cPc]
@[go_sem] theorem cPc_snoc (xs : List Pc) (id : Int) (owner : Int) (area : Int) (cls : Int) : cPc xs ++ [.sc (.int .i64 id), .sc (.int .i64 owner), .sc (.int .i64 area), .sc (.int .i64 cls)] = cPc (xs ++ [⟨id, owner, area, cls⟩]) := by simp [cPc, Pc.cells]
@[go_sem] theorem cPc_take (ds : List Pc) (n : Nat) : (cPc ds).take (n * 4) = cPc (ds.take n) := rsTake Pc.cells 4 (fun _ => rfl) ds n
@[go_sem] theorem cPc_take_all (ds : List Pc) (n : Nat) (h : ds.length * 4 ≤ n) : (cPc ds).take n = cPc ds := List.take_of_length_le (by rw [length_cPc]; exact h)
@[go_sem] theorem cPc_drop (ds : List Pc) (n : Nat) : (cPc ds).drop (n * 4) = cPc (ds.drop n) := rsDrop Pc.cells 4 (fun _ => rfl) ds n
@[go_sem high] theorem vPart_cPc (ds : List Pc) (i : Nat) (K : V → Prop) : vPart true 4 (cPc ds) (i * 4) K = grd (i < ds.length) (K (.agg [.sc (.int .i64 (gPc ds i).id), .sc (.int .i64 (gPc ds i).owner), .sc (.int .i64 (gPc ds i).area), .sc (.int .i64 (gPc ds i).cls)])) := rsPart Pc.cells 4 (fun _ => rfl) (by omega) ds i K
@[go_sem] theorem cPc_at (ds : List Pc) (n : Nat) (h : n < ds.length) : (cPc (ds.drop n)).take 4 = [.sc (.int .i64 (gPc ds n).id), .sc (.int .i64 (gPc ds n).owner), .sc (.int .i64 (gPc ds n).area), .sc (.int .i64 (gPc ds n).cls)] := by rw [List.drop_eq_getElem_cons h, gPc_lt ds n h]; rfl
@[go_sem] theorem cPc_at0 (ds : List Pc) (h : 0 < ds.length) : (cPc ds).take 4 = [.sc (.int .i64 (gPc ds 0).id), .sc (.int .i64 (gPc ds 0).owner), .sc (.int .i64 (gPc ds 0).area), .sc (.int .i64 (gPc ds 0).cls)] := by cases ds with | nil => simp at h | cons x r => rfl
@[go_sem] theorem vAt_cPc_0 (ds : List Pc) (i : Nat) (K : V → Prop) : vAt (cPc ds) (i * 4) K = grd (i < ds.length) (K (.sc (.int .i64 (gPc ds i).id))) := rsAt Pc.cells 4 (fun _ => rfl) ds i 0 (by omega) (fun d => .sc (.int .i64 d.id)) (fun _ => rfl) K
@[go_sem] theorem wr_cPc_0 (ds : List Pc) (i : Nat) (x : Int) (h : i < ds.length) : wr (cPc ds) (i * 4) [.sc (.int .i64 x)] = cPc (ds.set i {gPc ds i with id := x}) := rsWr Pc.cells 4 (fun _ => rfl) ds i 0 (by omega) h _ _ rfl
@[go_sem] theorem vAt_cPc_1 (ds : List Pc) (i : Nat) (K : V → Prop) : vAt (cPc ds) (i * 4 + 1) K = grd (i < ds.length) (K (.sc (.int .i64 (gPc ds i).owner))) := rsAt Pc.cells 4 (fun _ => rfl) ds i 1 (by omega) (fun d => .sc (.int .i64 d.owner)) (fun _ => rfl) K
@[go_sem] theorem wr_cPc_1 (ds : List Pc) (i : Nat) (x : Int) (h : i < ds.length) : wr (cPc ds) (i * 4 + 1) [.sc (.int .i64 x)] = cPc (ds.set i {gPc ds i with owner := x}) := rsWr Pc.cells 4 (fun _ => rfl) ds i 1 (by omega) h _ _ rfl
@[go_sem] theorem vAt_cPc_2 (ds : List Pc) (i : Nat) (K : V → Prop) : vAt (cPc ds) (i * 4 + 2) K = grd (i < ds.length) (K (.sc (.int .i64 (gPc ds i).area))) := rsAt Pc.cells 4 (fun _ => rfl) ds i 2 (by omega) (fun d => .sc (.int .i64 d.area)) (fun _ => rfl) K
@[go_sem] theorem wr_cPc_2 (ds : List Pc) (i : Nat) (x : Int) (h : i < ds.length) : wr (cPc ds) (i * 4 + 2) [.sc (.int .i64 x)] = cPc (ds.set i {gPc ds i with area := x}) := rsWr Pc.cells 4 (fun _ => rfl) ds i 2 (by omega) h _ _ rfl
@[go_sem] theorem vAt_cPc_3 (ds : List Pc) (i : Nat) (K : V → Prop) : vAt (cPc ds) (i * 4 + 3) K = grd (i < ds.length) (K (.sc (.int .i64 (gPc ds i).cls))) := rsAt Pc.cells 4 (fun _ => rfl) ds i 3 (by omega) (fun d => .sc (.int .i64 d.cls)) (fun _ => rfl) K
@[go_sem] theorem wr_cPc_3 (ds : List Pc) (i : Nat) (x : Int) (h : i < ds.length) : wr (cPc ds) (i * 4 + 3) [.sc (.int .i64 x)] = cPc (ds.set i {gPc ds i with cls := x}) := rsWr Pc.cells 4 (fun _ => rfl) ds i 3 (by omega) h _ _ rfl
@[go_sem] theorem wr_cPc_0_set (ds : List Pc) (i i0 : Nat) (d : Pc) (x : Int) (h : i < ds.length) : wr (cPc (ds.set i0 d)) (i * 4) [.sc (.int .i64 x)] = cPc ((ds.set i0 d).set i {gPc (ds.set i0 d) i with id := x}) := wr_cPc_0 _ _ _ (by rw [List.length_set]; exact h)
@[go_sem] theorem wr_cPc_1_set (ds : List Pc) (i i0 : Nat) (d : Pc) (x : Int) (h : i < ds.length) : wr (cPc (ds.set i0 d)) (i * 4 + 1) [.sc (.int .i64 x)] = cPc ((ds.set i0 d).set i {gPc (ds.set i0 d) i with owner := x}) := wr_cPc_1 _ _ _ (by rw [List.length_set]; exact h)
@[go_sem] theorem wr_cPc_2_set (ds : List Pc) (i i0 : Nat) (d : Pc) (x : Int) (h : i < ds.length) : wr (cPc (ds.set i0 d)) (i * 4 + 2) [.sc (.int .i64 x)] = cPc ((ds.set i0 d).set i {gPc (ds.set i0 d) i with area := x}) := wr_cPc_2 _ _ _ (by rw [List.length_set]; exact h)
@[go_sem] theorem wr_cPc_3_set (ds : List Pc) (i i0 : Nat) (d : Pc) (x : Int) (h : i < ds.length) : wr (cPc (ds.set i0 d)) (i * 4 + 3) [.sc (.int .i64 x)] = cPc ((ds.set i0 d).set i {gPc (ds.set i0 d) i with cls := x}) := wr_cPc_3 _ _ _ (by rw [List.length_set]; exact h)
attribute [go_sem] gPc_set_same
@[go_sem] theorem wr_cPc_all (ds : List Pc) (i : Nat) (id : Int) (owner : Int) (area : Int) (cls : Int) (h : i < ds.length) : wr (cPc ds) (i * 4) [.sc (.int .i64 id), .sc (.int .i64 owner), .sc (.int .i64 area), .sc (.int .i64 cls)] = cPc (ds.set i ⟨id, owner, area, cls⟩) := rsWrAll Pc.cells 4 (fun _ => rfl) ds i h ⟨id, owner, area, cls⟩
@[go_sem] theorem imm_cPc (ds : List Pc) : V.immL (cPc ds) = true := by induction ds with | nil => rfl | cons x xs ih => exact ih
@[go_sem] theorem one_cPc (ds : List Pc) : V.oneL (cPc ds) = true := by induction ds with | nil => rfl | cons x xs ih => exact ih
@[go_sem] theorem noref_cPc (ds : List Pc) : V.norefL (cPc ds) = true := by induction ds with | nil => rfl | cons x xs ih => exact ih
@[go_sem] theorem flat_cPc (ds : List Pc) : V.flatL (cPc ds) = true := by induction ds with | nil => rfl | cons x xs ih => exact ih
@[go_sem] theorem kill_cPc (p : Nat → Bool) (ds : List Pc) : V.killL p (cPc ds) = cPc ds := killL_noref p _ (noref_cPc ds)
@[go_sem] theorem frz_cPc (f : Nat → Option Ob) (ds : List Pc) : V.frzL f (cPc ds) = cPc ds := frzL_noref f _ (noref_cPc ds)
@[go_sem] theorem ren_cPc (g : Nat → Nat) (ds : List Pc) : V.renL g (cPc ds) = cPc ds := by induction ds with | nil => rfl | cons x xs ih => exact congrArg (x.cells ++ ·) ih
@[go_sem] theorem reps_cPc (n : Nat) : reps n [V.sc (.int .i64 0), V.sc (.int .i64 0), V.sc (.int .i64 0), V.sc (.int .i64 0)] = cPc (List.replicate n ⟨0, 0, 0, 0⟩) := rsReps Pc.cells n ⟨0, 0, 0, 0⟩
@[go_sem] theorem map_cPc_inj (xs ys : List Pc) : (cPc xs = cPc ys) = (xs = ys) := propext ⟨rsInj Pc.cells 4 (fun _ => rfl) (by omega) (fun a b h => by cases a; cases b; simpa [Pc.cells] using h) xs ys, fun h => by rw [h]⟩
@[go_sem] theorem cPc_rep0 (d : Pc) : cPc (List.replicate 0 d) = [] := rfl
@[go_sem] theorem wr_cPc_rep1 (d : Pc) (id : Int) (owner : Int) (area : Int) (cls : Int) : wr (cPc (List.replicate 1 d)) 0 [.sc (.int .i64 id), .sc (.int .i64 owner), .sc (.int .i64 area), .sc (.int .i64 cls)] = cPc [⟨id, owner, area, cls⟩] := rfl
@[go_sem] theorem cPc_take1 (d : Pc) : (cPc [d]).take 4 = cPc [d] := rfl
end Go.Proofs.YtbbdfifpncjpnaaDoor

/- sluices: what is valid, flows, steps -/
import Derived.Test.YthnphcinjchloaaBas
import Derived.Test.YthnphcinjchloaaLand
set_option linter.unusedVariables false
set_option linter.unusedSimpArgs false
namespace Go.Proofs.Ythnphcinjchloaa
open Go.AG

attribute [local go_sem] beq_self_eq_true bne_self_eq_false Bool.not_true Bool.not_false
structure Slc where
  wd : Int
  sill : Int
  deriving Inhabited, DecidableEq
def Slc.cells (d : Slc) : List V := [.sc (.int .i64 d.wd), .sc (.int .i64 d.sill)]
def cSlc (ds : List Slc) : List V := ds.flatMap Slc.cells
def gSlc (ds : List Slc) (i : Nat) : Slc := ds.getD i default
theorem gSlc_lt (ds : List Slc) (i : Nat) (h : i < ds.length) : gSlc ds i = ds[i] := by simp [gSlc, h]
theorem gSlc_mem (ds : List Slc) (i : Nat) (h : i < ds.length) : gSlc ds i ∈ ds := by rw [gSlc_lt ds i h]; exact List.getElem_mem h
theorem gSlc_take_succ (ds : List Slc) (i : Nat) (h : i < ds.length) : ds.take (i + 1) = ds.take i ++ [gSlc ds i] := by rw [List.take_succ_eq_append_getElem h, gSlc_lt ds i h]
theorem gSlc_set_same (ds : List Slc) (i : Nat) (d : Slc) (h : i < ds.length) : gSlc (ds.set i d) i = d := by simp [gSlc, h]
theorem gSlc_set_ne (ds : List Slc) (i j : Nat) (d : Slc) (h : i ≠ j) : gSlc (ds.set i d) j = gSlc ds j := by simp [gSlc, h]
theorem gSlc_app_l (xs ys : List Slc) (i : Nat) (h : i < xs.length) : gSlc (xs ++ ys) i = gSlc xs i := by simp [gSlc, List.getElem?_append_left h]
theorem gSlc_app_r (xs ys : List Slc) (i : Nat) (h : xs.length ≤ i) : gSlc (xs ++ ys) i = gSlc ys (i - xs.length) := by simp [gSlc, List.getElem?_append_right h]
theorem cSlc_eq (ds : List Slc) : cSlc ds = (ds.map Slc.cells).flatten := by rw [cSlc, List.flatMap_def]
@[go_sem] theorem length_cSlc (ds : List Slc) : (cSlc ds).length = ds.length * 2 := (rsLen Slc.cells 2 (fun _ => rfl) ds)
@[go_sem] theorem cSlc_nil : cSlc [] = [] := rfl
@[go_sem] theorem cSlc_append (xs ys : List Slc) : cSlc xs ++ cSlc ys = cSlc (xs ++ ys) := by simp [cSlc]
theorem cSlc_one (d : Slc) : cSlc [d] = d.cells := by simp [cSlc]
@[go_sem] theorem cSlc_snoc (xs : List Slc) (wd : Int) (sill : Int) : cSlc xs ++ [.sc (.int .i64 wd), .sc (.int .i64 sill)] = cSlc (xs ++ [⟨wd, sill⟩]) := by simp [cSlc, Slc.cells]
@[go_sem] theorem cSlc_take (ds : List Slc) (n : Nat) : (cSlc ds).take (n * 2) = cSlc (ds.take n) := rsTake Slc.cells 2 (fun _ => rfl) ds n
@[go_sem] theorem cSlc_take_all (ds : List Slc) (n : Nat) (h : ds.length * 2 ≤ n) : (cSlc ds).take n = cSlc ds := List.take_of_length_le (by rw [length_cSlc]; exact h)
@[go_sem] theorem cSlc_drop (ds : List Slc) (n : Nat) : (cSlc ds).drop (n * 2) = cSlc (ds.drop n) := rsDrop Slc.cells 2 (fun _ => rfl) ds n
@[go_sem high] theorem vPart_cSlc (ds : List Slc) (i : Nat) (K : V → Prop) : vPart true 2 (cSlc ds) (i * 2) K = grd (i < ds.length) (K (.agg [.sc (.int .i64 (gSlc ds i).wd), .sc (.int .i64 (gSlc ds i).sill)])) := rsPart Slc.cells 2 (fun _ => rfl) (by omega) ds i K
@[go_sem] theorem cSlc_at (ds : List Slc) (n : Nat) (h : n < ds.length) : (cSlc (ds.drop n)).take 2 = [.sc (.int .i64 (gSlc ds n).wd), .sc (.int .i64 (gSlc ds n).sill)] := by rw [List.drop_eq_getElem_cons h, gSlc_lt ds n h]; rfl
@[go_sem] theorem cSlc_at0 (ds : List Slc) (h : 0 < ds.length) : (cSlc ds).take 2 = [.sc (.int .i64 (gSlc ds 0).wd), .sc (.int .i64 (gSlc ds 0).sill)] := by cases ds with | nil => simp at h | cons x r => rfl
@[go_sem] theorem vAt_cSlc_0 (ds : List Slc) (i : Nat) (K : V → Prop) : vAt (cSlc ds) (i * 2) K = grd (i < ds.length) (K (.sc (.int .i64 (gSlc ds i).wd))) := rsAt Slc.cells 2 (fun _ => rfl) ds i 0 (by omega) (fun d => .sc (.int .i64 d.wd)) (fun _ => rfl) K
@[go_sem] theorem wr_cSlc_0 (ds : List Slc) (i : Nat) (x : Int) (h : i < ds.length) : wr (cSlc ds) (i * 2) [.sc (.int .i64 x)] = cSlc (ds.set i {gSlc ds i with wd := x}) := rsWr Slc.cells 2 (fun _ => rfl) ds i 0 (by omega) h _ _ rfl
@[go_sem] theorem vAt_cSlc_1 (ds : List Slc) (i : Nat) (K : V → Prop) : vAt (cSlc ds) (i * 2 + 1) K = grd (i < ds.length) (K (.sc (.int .i64 (gSlc ds i).sill))) := rsAt Slc.cells 2 (fun _ => rfl) ds i 1 (by omega) (fun d => .sc (.int .i64 d.sill)) (fun _ => rfl) K
@[go_sem] theorem wr_cSlc_1 (ds : List Slc) (i : Nat) (x : Int) (h : i < ds.length) : wr (cSlc ds) (i * 2 + 1) [.sc (.int .i64 x)] = cSlc (ds.set i {gSlc ds i with sill := x}) := rsWr Slc.cells 2 (fun _ => rfl) ds i 1 (by omega) h _ _ rfl
@[go_sem] theorem wr_cSlc_0_set (ds : List Slc) (i i0 : Nat) (d : Slc) (x : Int) (h : i < ds.length) : wr (cSlc (ds.set i0 d)) (i * 2) [.sc (.int .i64 x)] = cSlc ((ds.set i0 d).set i {gSlc (ds.set i0 d) i with wd := x}) := wr_cSlc_0 _ _ _ (by rw [List.length_set]; exact h)
@[go_sem] theorem wr_cSlc_1_set (ds : List Slc) (i i0 : Nat) (d : Slc) (x : Int) (h : i < ds.length) : wr (cSlc (ds.set i0 d)) (i * 2 + 1) [.sc (.int .i64 x)] = cSlc ((ds.set i0 d).set i {gSlc (ds.set i0 d) i with sill := x}) := wr_cSlc_1 _ _ _ (by rw [List.length_set]; exact h)
attribute [go_sem] gSlc_set_same
@[go_sem] theorem wr_cSlc_all (ds : List Slc) (i : Nat) (wd : Int) (sill : Int) (h : i < ds.length) : wr (cSlc ds) (i * 2) [.sc (.int .i64 wd), .sc (.int .i64 sill)] = cSlc (ds.set i ⟨wd, sill⟩) := rsWrAll Slc.cells 2 (fun _ => rfl) ds i h ⟨wd, sill⟩
@[go_sem] theorem imm_cSlc (ds : List Slc) : V.immL (cSlc ds) = true := by induction ds with | nil => rfl | cons x xs ih => exact ih
@[go_sem] theorem one_cSlc (ds : List Slc) : V.oneL (cSlc ds) = true := by induction ds with | nil => rfl | cons x xs ih => exact ih
@[go_sem] theorem noref_cSlc (ds : List Slc) : V.norefL (cSlc ds) = true := by induction ds with | nil => rfl | cons x xs ih => exact ih
@[go_sem] theorem flat_cSlc (ds : List Slc) : V.flatL (cSlc ds) = true := by induction ds with | nil => rfl | cons x xs ih => exact ih
@[go_sem] theorem kill_cSlc (p : Nat → Bool) (ds : List Slc) : V.killL p (cSlc ds) = cSlc ds := killL_noref p _ (noref_cSlc ds)
@[go_sem] theorem frz_cSlc (f : Nat → Option Ob) (ds : List Slc) : V.frzL f (cSlc ds) = cSlc ds := frzL_noref f _ (noref_cSlc ds)
@[go_sem] theorem ren_cSlc (g : Nat → Nat) (ds : List Slc) : V.renL g (cSlc ds) = cSlc ds := by induction ds with | nil => rfl | cons x xs ih => exact congrArg (x.cells ++ ·) ih
@[go_sem] theorem reps_cSlc (n : Nat) : reps n [V.sc (.int .i64 0), V.sc (.int .i64 0)] = cSlc (List.replicate n ⟨0, 0⟩) := rsReps Slc.cells n ⟨0, 0⟩
@[go_sem] theorem map_cSlc_inj (xs ys : List Slc) : (cSlc xs = cSlc ys) = (xs = ys) := propext ⟨rsInj Slc.cells 2 (fun _ => rfl) (by omega) (fun a b h => by cases a; cases b; simpa [Slc.cells] using h) xs ys, fun h => by rw [h]⟩
@[go_sem] theorem cSlc_rep0 (d : Slc) : cSlc (List.replicate 0 d) = [] := rfl
@[go_sem] theorem wr_cSlc_rep1 (d : Slc) (wd : Int) (sill : Int) : wr (cSlc (List.replicate 1 d)) 0 [.sc (.int .i64 wd), .sc (.int .i64 sill)] = cSlc [⟨wd, sill⟩] := rfl
@[go_sem] theorem cSlc_take1 (d : Slc) : (cSlc [d]).take 2 = cSlc [d] := rfl
structure Gt where
  op : Bool
  ps : Int
  mv : Int
  deriving Inhabited, DecidableEq
def Gt.cells (d : Gt) : List V := [.sc (.bool d.op), .sc (.int .i64 d.ps), .sc (.int .i64 d.mv)]
def cGt (ds : List Gt) : List V := ds.flatMap Gt.cells
def gGt (ds : List Gt) (i : Nat) : Gt := ds.getD i default
theorem gGt_lt (ds : List Gt) (i : Nat) (h : i < ds.length) : gGt ds i = ds[i] := by simp [gGt, h]
theorem gGt_mem (ds : List Gt) (i : Nat) (h : i < ds.length) : gGt ds i ∈ ds := by rw [gGt_lt ds i h]; exact List.getElem_mem h
theorem gGt_take_succ (ds : List Gt) (i : Nat) (h : i < ds.length) : ds.take (i + 1) = ds.take i ++ [gGt ds i] := by rw [List.take_succ_eq_append_getElem h, gGt_lt ds i h]
theorem gGt_set_same (ds : List Gt) (i : Nat) (d : Gt) (h : i < ds.length) : gGt (ds.set i d) i = d := by simp [gGt, h]
theorem gGt_set_ne (ds : List Gt) (i j : Nat) (d : Gt) (h : i ≠ j) : gGt (ds.set i d) j = gGt ds j := by simp [gGt, h]
theorem gGt_app_l (xs ys : List Gt) (i : Nat) (h : i < xs.length) : gGt (xs ++ ys) i = gGt xs i := by simp [gGt, List.getElem?_append_left h]
theorem gGt_app_r (xs ys : List Gt) (i : Nat) (h : xs.length ≤ i) : gGt (xs ++ ys) i = gGt ys (i - xs.length) := by simp [gGt, List.getElem?_append_right h]
theorem cGt_eq (ds : List Gt) : cGt ds = (ds.map Gt.cells).flatten := by rw [cGt, List.flatMap_def]
@[go_sem] theorem length_cGt (ds : List Gt) : (cGt ds).length = ds.length * 3 := (rsLen Gt.cells 3 (fun _ => rfl) ds)
@[go_sem] theorem cGt_nil : cGt [] = [] := rfl
@[go_sem] theorem cGt_append (xs ys : List Gt) : cGt xs ++ cGt ys = cGt (xs ++ ys) := by simp [cGt]
theorem cGt_one (d : Gt) : cGt [d] = d.cells := by simp [cGt]
@[go_sem] theorem cGt_snoc (xs : List Gt) (op : Bool) (ps : Int) (mv : Int) : cGt xs ++ [.sc (.bool op), .sc (.int .i64 ps), .sc (.int .i64 mv)] = cGt (xs ++ [⟨op, ps, mv⟩]) := by simp [cGt, Gt.cells]
@[go_sem] theorem cGt_take (ds : List Gt) (n : Nat) : (cGt ds).take (n * 3) = cGt (ds.take n) := rsTake Gt.cells 3 (fun _ => rfl) ds n
@[go_sem] theorem cGt_take_all (ds : List Gt) (n : Nat) (h : ds.length * 3 ≤ n) : (cGt ds).take n = cGt ds := List.take_of_length_le (by rw [length_cGt]; exact h)
@[go_sem] theorem cGt_drop (ds : List Gt) (n : Nat) : (cGt ds).drop (n * 3) = cGt (ds.drop n) := rsDrop Gt.cells 3 (fun _ => rfl) ds n
@[go_sem high] theorem vPart_cGt (ds : List Gt) (i : Nat) (K : V → Prop) : vPart true 3 (cGt ds) (i * 3) K = grd (i < ds.length) (K (.agg [.sc (.bool (gGt ds i).op), .sc (.int .i64 (gGt ds i).ps), .sc (.int .i64 (gGt ds i).mv)])) := rsPart Gt.cells 3 (fun _ => rfl) (by omega) ds i K
@[go_sem] theorem cGt_at (ds : List Gt) (n : Nat) (h : n < ds.length) : (cGt (ds.drop n)).take 3 = [.sc (.bool (gGt ds n).op), .sc (.int .i64 (gGt ds n).ps), .sc (.int .i64 (gGt ds n).mv)] := by rw [List.drop_eq_getElem_cons h, gGt_lt ds n h]; rfl
@[go_sem] theorem cGt_at0 (ds : List Gt) (h : 0 < ds.length) : (cGt ds).take 3 = [.sc (.bool (gGt ds 0).op), .sc (.int .i64 (gGt ds 0).ps), .sc (.int .i64 (gGt ds 0).mv)] := by cases ds with | nil => simp at h | cons x r => rfl
@[go_sem] theorem vAt_cGt_0 (ds : List Gt) (i : Nat) (K : V → Prop) : vAt (cGt ds) (i * 3) K = grd (i < ds.length) (K (.sc (.bool (gGt ds i).op))) := rsAt Gt.cells 3 (fun _ => rfl) ds i 0 (by omega) (fun d => .sc (.bool d.op)) (fun _ => rfl) K
@[go_sem] theorem wr_cGt_0 (ds : List Gt) (i : Nat) (x : Bool) (h : i < ds.length) : wr (cGt ds) (i * 3) [.sc (.bool x)] = cGt (ds.set i {gGt ds i with op := x}) := rsWr Gt.cells 3 (fun _ => rfl) ds i 0 (by omega) h _ _ rfl
@[go_sem] theorem vAt_cGt_1 (ds : List Gt) (i : Nat) (K : V → Prop) : vAt (cGt ds) (i * 3 + 1) K = grd (i < ds.length) (K (.sc (.int .i64 (gGt ds i).ps))) := rsAt Gt.cells 3 (fun _ => rfl) ds i 1 (by omega) (fun d => .sc (.int .i64 d.ps)) (fun _ => rfl) K
@[go_sem] theorem wr_cGt_1 (ds : List Gt) (i : Nat) (x : Int) (h : i < ds.length) : wr (cGt ds) (i * 3 + 1) [.sc (.int .i64 x)] = cGt (ds.set i {gGt ds i with ps := x}) := rsWr Gt.cells 3 (fun _ => rfl) ds i 1 (by omega) h _ _ rfl
@[go_sem] theorem vAt_cGt_2 (ds : List Gt) (i : Nat) (K : V → Prop) : vAt (cGt ds) (i * 3 + 2) K = grd (i < ds.length) (K (.sc (.int .i64 (gGt ds i).mv))) := rsAt Gt.cells 3 (fun _ => rfl) ds i 2 (by omega) (fun d => .sc (.int .i64 d.mv)) (fun _ => rfl) K
@[go_sem] theorem wr_cGt_2 (ds : List Gt) (i : Nat) (x : Int) (h : i < ds.length) : wr (cGt ds) (i * 3 + 2) [.sc (.int .i64 x)] = cGt (ds.set i {gGt ds i with mv := x}) := rsWr Gt.cells 3 (fun _ => rfl) ds i 2 (by omega) h _ _ rfl
@[go_sem] theorem wr_cGt_0_set (ds : List Gt) (i i0 : Nat) (d : Gt) (x : Bool) (h : i < ds.length) : wr (cGt (ds.set i0 d)) (i * 3) [.sc (.bool x)] = cGt ((ds.set i0 d).set i {gGt (ds.set i0 d) i with op := x}) := wr_cGt_0 _ _ _ (by rw [List.length_set]; exact h)
@[go_sem] theorem wr_cGt_1_set (ds : List Gt) (i i0 : Nat) (d : Gt) (x : Int) (h : i < ds.length) : wr (cGt (ds.set i0 d)) (i * 3 + 1) [.sc (.int .i64 x)] = cGt ((ds.set i0 d).set i {gGt (ds.set i0 d) i with ps := x}) := wr_cGt_1 _ _ _ (by rw [List.length_set]; exact h)
@[go_sem] theorem wr_cGt_2_set (ds : List Gt) (i i0 : Nat) (d : Gt) (x : Int) (h : i < ds.length) : wr (cGt (ds.set i0 d)) (i * 3 + 2) [.sc (.int .i64 x)] = cGt ((ds.set i0 d).set i {gGt (ds.set i0 d) i with mv := x}) := wr_cGt_2 _ _ _ (by rw [List.length_set]; exact h)
attribute [go_sem] gGt_set_same
@[go_sem] theorem wr_cGt_all (ds : List Gt) (i : Nat) (op : Bool) (ps : Int) (mv : Int) (h : i < ds.length) : wr (cGt ds) (i * 3) [.sc (.bool op), .sc (.int .i64 ps), .sc (.int .i64 mv)] = cGt (ds.set i ⟨op, ps, mv⟩) := rsWrAll Gt.cells 3 (fun _ => rfl) ds i h ⟨op, ps, mv⟩
@[go_sem] theorem imm_cGt (ds : List Gt) : V.immL (cGt ds) = true := by induction ds with | nil => rfl | cons x xs ih => exact ih
@[go_sem] theorem one_cGt (ds : List Gt) : V.oneL (cGt ds) = true := by induction ds with | nil => rfl | cons x xs ih => exact ih
@[go_sem] theorem noref_cGt (ds : List Gt) : V.norefL (cGt ds) = true := by induction ds with | nil => rfl | cons x xs ih => exact ih
@[go_sem] theorem flat_cGt (ds : List Gt) : V.flatL (cGt ds) = true := by induction ds with | nil => rfl | cons x xs ih => exact ih
@[go_sem] theorem kill_cGt (p : Nat → Bool) (ds : List Gt) : V.killL p (cGt ds) = cGt ds := killL_noref p _ (noref_cGt ds)
@[go_sem] theorem frz_cGt (f : Nat → Option Ob) (ds : List Gt) : V.frzL f (cGt ds) = cGt ds := frzL_noref f _ (noref_cGt ds)
@[go_sem] theorem ren_cGt (g : Nat → Nat) (ds : List Gt) : V.renL g (cGt ds) = cGt ds := by induction ds with | nil => rfl | cons x xs ih => exact congrArg (x.cells ++ ·) ih
@[go_sem] theorem reps_cGt (n : Nat) : reps n [V.sc (.bool false), V.sc (.int .i64 0), V.sc (.int .i64 0)] = cGt (List.replicate n ⟨false, 0, 0⟩) := rsReps Gt.cells n ⟨false, 0, 0⟩
@[go_sem] theorem map_cGt_inj (xs ys : List Gt) : (cGt xs = cGt ys) = (xs = ys) := propext ⟨rsInj Gt.cells 3 (fun _ => rfl) (by omega) (fun a b h => by cases a; cases b; simpa [Gt.cells] using h) xs ys, fun h => by rw [h]⟩
@[go_sem] theorem cGt_rep0 (d : Gt) : cGt (List.replicate 0 d) = [] := rfl
@[go_sem] theorem wr_cGt_rep1 (d : Gt) (op : Bool) (ps : Int) (mv : Int) : wr (cGt (List.replicate 1 d)) 0 [.sc (.bool op), .sc (.int .i64 ps), .sc (.int .i64 mv)] = cGt [⟨op, ps, mv⟩] := rfl
@[go_sem] theorem cGt_take1 (d : Gt) : (cGt [d]).take 3 = cGt [d] := rfl
def okS (s : Slc) : Bool := decide (1 ≤ s.wd ∧ s.wd ≤ 5000) && lvB s.sill
def okG9 (g : Gt) : Bool := decide (0 ≤ g.ps ∧ g.ps ≤ 1000000000) && decide (0 ≤ g.mv ∧ g.mv ≤ 1000000)
def mx0 (a b : Int) : Int := if a < b then b else a
theorem mx0_e (a b : Int) : (if b < a then a else b) = mx0 a b := by unfold mx0; split <;> split <;> omega
def flH (s : Slc) (i o : Int) : Int := mx0 0 (i - mx0 o s.sill)
def flw (s : Slc) (i o : Int) : Int := (s.wd * flH s i o).tdiv 10
def zG : Gt := ⟨false, 0, 0⟩
def finG (q : Gt) : Gt × Int := if okG9 q = true then (q, 0) else (zG, 5)
def opn (g : Gt) (ord i o : Int) : Bool := decide (ord = 1) || (decide (ord = 0) && (g.op && decide (o < i)))
def stp (s : Slc) (g : Gt) (ord i o : Int) : Gt × Int := if ord = 1 ∧ i ≤ o then (zG, 10) else finG ⟨opn g ord i o, if opn g ord i o = true then g.ps + flw s i o else g.ps, if opn g ord i o = g.op then g.mv else g.mv + 1⟩
def stR (s : Slc) (g : Gt) (ord i o : Int) : Gt × Int := if (okS s && okG9 g) = true then (if (decide (0 ≤ ord ∧ ord ≤ 2) && (lvB i && lvB o)) = true then stp s g ord i o else (zG, 2)) else (zG, 1)
def foR (s : Slc) (i o : Int) : Int × Int := if okS s = true then (if (lvB i && lvB o) = true then (flw s i o, 0) else (0, 2)) else (0, 1)
theorem okS_f {s : Slc} (h : okS s = true) : (1 ≤ s.wd ∧ s.wd ≤ 5000) ∧ -2000 ≤ s.sill ∧ s.sill ≤ 2000 := by
  simp only [okS, Bool.and_eq_true, decide_eq_true_eq] at h
  exact ⟨h.1, lvB_f h.2⟩
theorem okG9_f {g : Gt} (h : okG9 g = true) : (0 ≤ g.ps ∧ g.ps ≤ 1000000000) ∧ 0 ≤ g.mv ∧ g.mv ≤ 1000000 := by
  simpa only [okG9, Bool.and_eq_true, decide_eq_true_eq] using h
theorem flH_bd {s : Slc} {i o : Int} (h : okS s = true) (hi : lvB i = true) (ho : lvB o = true) : 0 ≤ flH s i o ∧ flH s i o ≤ 4000 := by
  have := okS_f h
  have := lvB_f hi
  have := lvB_f ho
  unfold flH mx0
  split <;> split <;> omega
theorem flw_bd {s : Slc} {i o : Int} (h : okS s = true) (hi : lvB i = true) (ho : lvB o = true) : (0 ≤ s.wd * flH s i o ∧ s.wd * flH s i o ≤ 20000000) ∧ 0 ≤ flw s i o ∧ flw s i o ≤ 2000000 := by
  have h1 := okS_f h
  have h2 := flH_bd h hi ho
  have h3 : 0 ≤ s.wd * flH s i o := Int.mul_nonneg (by omega) h2.1
  have h4 : s.wd * flH s i o ≤ 5000 * 4000 := Int.mul_le_mul h1.1.2 h2.2 h2.1 (by omega)
  refine ⟨⟨h3, by omega⟩, ?_⟩
  unfold flw
  rw [Int.tdiv_eq_ediv_of_nonneg h3]
  omega
/-- no flow where there is no height of water -/
theorem flw_0 {s : Slc} {i o : Int} (h : i ≤ o ∨ i ≤ s.sill) : flw s i o = 0 := by
  have : flH s i o = 0 := by
    unfold flH mx0
    split <;> split <;> omega
  unfold flw
  rw [this]; simp
theorem validSl_ok (s : Slc) : ACalls Try.prog 74 [.agg s.cells] [] (fun r o => r = B (okS s) ∧ o = []) := by
  refine ACalls.of_vc Try.func74 rfl (by decide) 11 rfl [.tmp 2] rfl (by simp) ?_
  have h1 := in_ok s.wd 1 5000
  have h2 := bLev_ok s.sill
  unfold Slc.cells
  (repeat (first | simp (maxSteps := 2000000) (disch := omega) only [go_sem, ↓reduceIte, Nat.reduceEqDiff, Nat.reduceAdd, Nat.reduceMul, Nat.reduceSub, Int.reduceToNat, Int.reduceAdd, Int.reduceSub, Int.reduceMul, Int.reduceNeg] | with_reducible refine vIf_t ?_ | with_reducible refine vIf_f ?_))
  (refine vCallX_of ?_; (repeat (first | simp (maxSteps := 2000000) (disch := omega) only [go_sem, ↓reduceIte, Nat.reduceEqDiff, Nat.reduceAdd, Nat.reduceMul, Nat.reduceSub, Int.reduceToNat, Int.reduceAdd, Int.reduceSub, Int.reduceMul, Int.reduceNeg] | with_reducible refine vIf_t ?_ | with_reducible refine vIf_f ?_)); refine vCall_eq (h1) (by simp (disch := omega) only [go_sem, Nat.reduceAdd]) rfl (by first | exact Or.inl rfl | exact Or.inr ⟨rfl, rfl⟩ | (apply Or.inr; simp only [go_sem])) ?_; (repeat (first | simp (maxSteps := 2000000) (disch := omega) only [go_sem, ↓reduceIte, Nat.reduceEqDiff, Nat.reduceAdd, Nat.reduceMul, Nat.reduceSub, Int.reduceToNat, Int.reduceAdd, Int.reduceSub, Int.reduceMul, Int.reduceNeg] | with_reducible refine vIf_t ?_ | with_reducible refine vIf_f ?_)))
  cases e1 : decide (1 ≤ s.wd ∧ s.wd ≤ 5000) with
  | false =>
    (try (repeat (first | simp (maxSteps := 2000000) (disch := omega) only [go_sem, ↓reduceIte, Nat.reduceEqDiff, Nat.reduceAdd, Nat.reduceMul, Nat.reduceSub, Int.reduceToNat, Int.reduceAdd, Int.reduceSub, Int.reduceMul, Int.reduceNeg, e1] | with_reducible refine vIf_t ?_ | with_reducible refine vIf_f ?_)))
    (refine retK_of ?_; (repeat (first | simp (maxSteps := 2000000) (disch := omega) only [go_sem, ↓reduceIte, Nat.reduceEqDiff, Nat.reduceAdd, Nat.reduceMul, Nat.reduceSub, Int.reduceToNat, Int.reduceAdd, Int.reduceSub, Int.reduceMul, Int.reduceNeg] | with_reducible refine vIf_t ?_ | with_reducible refine vIf_f ?_)))
    simp [okS, e1]
  | true =>
    (try (repeat (first | simp (maxSteps := 2000000) (disch := omega) only [go_sem, ↓reduceIte, Nat.reduceEqDiff, Nat.reduceAdd, Nat.reduceMul, Nat.reduceSub, Int.reduceToNat, Int.reduceAdd, Int.reduceSub, Int.reduceMul, Int.reduceNeg, e1] | with_reducible refine vIf_t ?_ | with_reducible refine vIf_f ?_)))
    (refine vCallX_of ?_; (repeat (first | simp (maxSteps := 2000000) (disch := omega) only [go_sem, ↓reduceIte, Nat.reduceEqDiff, Nat.reduceAdd, Nat.reduceMul, Nat.reduceSub, Int.reduceToNat, Int.reduceAdd, Int.reduceSub, Int.reduceMul, Int.reduceNeg] | with_reducible refine vIf_t ?_ | with_reducible refine vIf_f ?_)); refine vCall_eq (h2) (by simp (disch := omega) only [go_sem, Nat.reduceAdd]) rfl (by first | exact Or.inl rfl | exact Or.inr ⟨rfl, rfl⟩ | (apply Or.inr; simp only [go_sem])) ?_; (repeat (first | simp (maxSteps := 2000000) (disch := omega) only [go_sem, ↓reduceIte, Nat.reduceEqDiff, Nat.reduceAdd, Nat.reduceMul, Nat.reduceSub, Int.reduceToNat, Int.reduceAdd, Int.reduceSub, Int.reduceMul, Int.reduceNeg] | with_reducible refine vIf_t ?_ | with_reducible refine vIf_f ?_)))
    (refine retK_of ?_; (repeat (first | simp (maxSteps := 2000000) (disch := omega) only [go_sem, ↓reduceIte, Nat.reduceEqDiff, Nat.reduceAdd, Nat.reduceMul, Nat.reduceSub, Int.reduceToNat, Int.reduceAdd, Int.reduceSub, Int.reduceMul, Int.reduceNeg] | with_reducible refine vIf_t ?_ | with_reducible refine vIf_f ?_)))
    simp [okS, e1]
theorem l09Ok_ok (s : Slc) : ACalls Try.prog 132 [.agg s.cells] [] (fun r o => r = B (okS s) ∧ o = []) := by
  refine ACalls.of_vc Try.func132 rfl (by decide) 11 rfl [.tmp 2] rfl (by simp) ?_
  have h1 := inS_ok s.wd 1 5000
  have h2 := bLevS_ok s.sill
  unfold Slc.cells
  (repeat (first | simp (maxSteps := 2000000) (disch := omega) only [go_sem, ↓reduceIte, Nat.reduceEqDiff, Nat.reduceAdd, Nat.reduceMul, Nat.reduceSub, Int.reduceToNat, Int.reduceAdd, Int.reduceSub, Int.reduceMul, Int.reduceNeg] | with_reducible refine vIf_t ?_ | with_reducible refine vIf_f ?_))
  (refine vCallX_of ?_; (repeat (first | simp (maxSteps := 2000000) (disch := omega) only [go_sem, ↓reduceIte, Nat.reduceEqDiff, Nat.reduceAdd, Nat.reduceMul, Nat.reduceSub, Int.reduceToNat, Int.reduceAdd, Int.reduceSub, Int.reduceMul, Int.reduceNeg] | with_reducible refine vIf_t ?_ | with_reducible refine vIf_f ?_)); refine vCall_eq (h1) (by simp (disch := omega) only [go_sem, Nat.reduceAdd]) rfl (by first | exact Or.inl rfl | exact Or.inr ⟨rfl, rfl⟩ | (apply Or.inr; simp only [go_sem])) ?_; (repeat (first | simp (maxSteps := 2000000) (disch := omega) only [go_sem, ↓reduceIte, Nat.reduceEqDiff, Nat.reduceAdd, Nat.reduceMul, Nat.reduceSub, Int.reduceToNat, Int.reduceAdd, Int.reduceSub, Int.reduceMul, Int.reduceNeg] | with_reducible refine vIf_t ?_ | with_reducible refine vIf_f ?_)))
  cases e1 : decide (1 ≤ s.wd ∧ s.wd ≤ 5000) with
  | false =>
    (try (repeat (first | simp (maxSteps := 2000000) (disch := omega) only [go_sem, ↓reduceIte, Nat.reduceEqDiff, Nat.reduceAdd, Nat.reduceMul, Nat.reduceSub, Int.reduceToNat, Int.reduceAdd, Int.reduceSub, Int.reduceMul, Int.reduceNeg, e1] | with_reducible refine vIf_t ?_ | with_reducible refine vIf_f ?_)))
    (refine retK_of ?_; (repeat (first | simp (maxSteps := 2000000) (disch := omega) only [go_sem, ↓reduceIte, Nat.reduceEqDiff, Nat.reduceAdd, Nat.reduceMul, Nat.reduceSub, Int.reduceToNat, Int.reduceAdd, Int.reduceSub, Int.reduceMul, Int.reduceNeg] | with_reducible refine vIf_t ?_ | with_reducible refine vIf_f ?_)))
    simp [okS, e1]
  | true =>
    (try (repeat (first | simp (maxSteps := 2000000) (disch := omega) only [go_sem, ↓reduceIte, Nat.reduceEqDiff, Nat.reduceAdd, Nat.reduceMul, Nat.reduceSub, Int.reduceToNat, Int.reduceAdd, Int.reduceSub, Int.reduceMul, Int.reduceNeg, e1] | with_reducible refine vIf_t ?_ | with_reducible refine vIf_f ?_)))
    (refine vCallX_of ?_; (repeat (first | simp (maxSteps := 2000000) (disch := omega) only [go_sem, ↓reduceIte, Nat.reduceEqDiff, Nat.reduceAdd, Nat.reduceMul, Nat.reduceSub, Int.reduceToNat, Int.reduceAdd, Int.reduceSub, Int.reduceMul, Int.reduceNeg] | with_reducible refine vIf_t ?_ | with_reducible refine vIf_f ?_)); refine vCall_eq (h2) (by simp (disch := omega) only [go_sem, Nat.reduceAdd]) rfl (by first | exact Or.inl rfl | exact Or.inr ⟨rfl, rfl⟩ | (apply Or.inr; simp only [go_sem])) ?_; (repeat (first | simp (maxSteps := 2000000) (disch := omega) only [go_sem, ↓reduceIte, Nat.reduceEqDiff, Nat.reduceAdd, Nat.reduceMul, Nat.reduceSub, Int.reduceToNat, Int.reduceAdd, Int.reduceSub, Int.reduceMul, Int.reduceNeg] | with_reducible refine vIf_t ?_ | with_reducible refine vIf_f ?_)))
    (refine retK_of ?_; (repeat (first | simp (maxSteps := 2000000) (disch := omega) only [go_sem, ↓reduceIte, Nat.reduceEqDiff, Nat.reduceAdd, Nat.reduceMul, Nat.reduceSub, Int.reduceToNat, Int.reduceAdd, Int.reduceSub, Int.reduceMul, Int.reduceNeg] | with_reducible refine vIf_t ?_ | with_reducible refine vIf_f ?_)))
    simp [okS, e1]
theorem validGt_ok (g : Gt) : ACalls Try.prog 97 [.agg g.cells] [] (fun r o => r = B (okG9 g) ∧ o = []) := by
  refine ACalls.of_vc Try.func97 rfl (by decide) 11 rfl [.tmp 2] rfl (by simp) ?_
  have h1 := in_ok g.ps 0 1000000000
  have h2 := in_ok g.mv 0 1000000
  unfold Gt.cells
  (repeat (first | simp (maxSteps := 2000000) (disch := omega) only [go_sem, ↓reduceIte, Nat.reduceEqDiff, Nat.reduceAdd, Nat.reduceMul, Nat.reduceSub, Int.reduceToNat, Int.reduceAdd, Int.reduceSub, Int.reduceMul, Int.reduceNeg] | with_reducible refine vIf_t ?_ | with_reducible refine vIf_f ?_))
  (refine vCallX_of ?_; (repeat (first | simp (maxSteps := 2000000) (disch := omega) only [go_sem, ↓reduceIte, Nat.reduceEqDiff, Nat.reduceAdd, Nat.reduceMul, Nat.reduceSub, Int.reduceToNat, Int.reduceAdd, Int.reduceSub, Int.reduceMul, Int.reduceNeg] | with_reducible refine vIf_t ?_ | with_reducible refine vIf_f ?_)); refine vCall_eq (h1) (by simp (disch := omega) only [go_sem, Nat.reduceAdd]) rfl (by first | exact Or.inl rfl | exact Or.inr ⟨rfl, rfl⟩ | (apply Or.inr; simp only [go_sem])) ?_; (repeat (first | simp (maxSteps := 2000000) (disch := omega) only [go_sem, ↓reduceIte, Nat.reduceEqDiff, Nat.reduceAdd, Nat.reduceMul, Nat.reduceSub, Int.reduceToNat, Int.reduceAdd, Int.reduceSub, Int.reduceMul, Int.reduceNeg] | with_reducible refine vIf_t ?_ | with_reducible refine vIf_f ?_)))
  cases e1 : decide (0 ≤ g.ps ∧ g.ps ≤ 1000000000) with
  | false =>
    (try (repeat (first | simp (maxSteps := 2000000) (disch := omega) only [go_sem, ↓reduceIte, Nat.reduceEqDiff, Nat.reduceAdd, Nat.reduceMul, Nat.reduceSub, Int.reduceToNat, Int.reduceAdd, Int.reduceSub, Int.reduceMul, Int.reduceNeg, e1] | with_reducible refine vIf_t ?_ | with_reducible refine vIf_f ?_)))
    (refine retK_of ?_; (repeat (first | simp (maxSteps := 2000000) (disch := omega) only [go_sem, ↓reduceIte, Nat.reduceEqDiff, Nat.reduceAdd, Nat.reduceMul, Nat.reduceSub, Int.reduceToNat, Int.reduceAdd, Int.reduceSub, Int.reduceMul, Int.reduceNeg] | with_reducible refine vIf_t ?_ | with_reducible refine vIf_f ?_)))
    simp [okG9, e1]
  | true =>
    (try (repeat (first | simp (maxSteps := 2000000) (disch := omega) only [go_sem, ↓reduceIte, Nat.reduceEqDiff, Nat.reduceAdd, Nat.reduceMul, Nat.reduceSub, Int.reduceToNat, Int.reduceAdd, Int.reduceSub, Int.reduceMul, Int.reduceNeg, e1] | with_reducible refine vIf_t ?_ | with_reducible refine vIf_f ?_)))
    (refine vCallX_of ?_; (repeat (first | simp (maxSteps := 2000000) (disch := omega) only [go_sem, ↓reduceIte, Nat.reduceEqDiff, Nat.reduceAdd, Nat.reduceMul, Nat.reduceSub, Int.reduceToNat, Int.reduceAdd, Int.reduceSub, Int.reduceMul, Int.reduceNeg] | with_reducible refine vIf_t ?_ | with_reducible refine vIf_f ?_)); refine vCall_eq (h2) (by simp (disch := omega) only [go_sem, Nat.reduceAdd]) rfl (by first | exact Or.inl rfl | exact Or.inr ⟨rfl, rfl⟩ | (apply Or.inr; simp only [go_sem])) ?_; (repeat (first | simp (maxSteps := 2000000) (disch := omega) only [go_sem, ↓reduceIte, Nat.reduceEqDiff, Nat.reduceAdd, Nat.reduceMul, Nat.reduceSub, Int.reduceToNat, Int.reduceAdd, Int.reduceSub, Int.reduceMul, Int.reduceNeg] | with_reducible refine vIf_t ?_ | with_reducible refine vIf_f ?_)))
    (refine retK_of ?_; (repeat (first | simp (maxSteps := 2000000) (disch := omega) only [go_sem, ↓reduceIte, Nat.reduceEqDiff, Nat.reduceAdd, Nat.reduceMul, Nat.reduceSub, Int.reduceToNat, Int.reduceAdd, Int.reduceSub, Int.reduceMul, Int.reduceNeg] | with_reducible refine vIf_t ?_ | with_reducible refine vIf_f ?_)))
    simp [okG9, e1]
theorem l09Gate_ok (g : Gt) : ACalls Try.prog 134 [.agg g.cells] [] (fun r o => r = B (okG9 g) ∧ o = []) := by
  refine ACalls.of_vc Try.func134 rfl (by decide) 11 rfl [.tmp 2] rfl (by simp) ?_
  have h1 := inS_ok g.ps 0 1000000000
  have h2 := inS_ok g.mv 0 1000000
  unfold Gt.cells
  (repeat (first | simp (maxSteps := 2000000) (disch := omega) only [go_sem, ↓reduceIte, Nat.reduceEqDiff, Nat.reduceAdd, Nat.reduceMul, Nat.reduceSub, Int.reduceToNat, Int.reduceAdd, Int.reduceSub, Int.reduceMul, Int.reduceNeg] | with_reducible refine vIf_t ?_ | with_reducible refine vIf_f ?_))
  (refine vCallX_of ?_; (repeat (first | simp (maxSteps := 2000000) (disch := omega) only [go_sem, ↓reduceIte, Nat.reduceEqDiff, Nat.reduceAdd, Nat.reduceMul, Nat.reduceSub, Int.reduceToNat, Int.reduceAdd, Int.reduceSub, Int.reduceMul, Int.reduceNeg] | with_reducible refine vIf_t ?_ | with_reducible refine vIf_f ?_)); refine vCall_eq (h1) (by simp (disch := omega) only [go_sem, Nat.reduceAdd]) rfl (by first | exact Or.inl rfl | exact Or.inr ⟨rfl, rfl⟩ | (apply Or.inr; simp only [go_sem])) ?_; (repeat (first | simp (maxSteps := 2000000) (disch := omega) only [go_sem, ↓reduceIte, Nat.reduceEqDiff, Nat.reduceAdd, Nat.reduceMul, Nat.reduceSub, Int.reduceToNat, Int.reduceAdd, Int.reduceSub, Int.reduceMul, Int.reduceNeg] | with_reducible refine vIf_t ?_ | with_reducible refine vIf_f ?_)))
  cases e1 : decide (0 ≤ g.ps ∧ g.ps ≤ 1000000000) with
  | false =>
    (try (repeat (first | simp (maxSteps := 2000000) (disch := omega) only [go_sem, ↓reduceIte, Nat.reduceEqDiff, Nat.reduceAdd, Nat.reduceMul, Nat.reduceSub, Int.reduceToNat, Int.reduceAdd, Int.reduceSub, Int.reduceMul, Int.reduceNeg, e1] | with_reducible refine vIf_t ?_ | with_reducible refine vIf_f ?_)))
    (refine retK_of ?_; (repeat (first | simp (maxSteps := 2000000) (disch := omega) only [go_sem, ↓reduceIte, Nat.reduceEqDiff, Nat.reduceAdd, Nat.reduceMul, Nat.reduceSub, Int.reduceToNat, Int.reduceAdd, Int.reduceSub, Int.reduceMul, Int.reduceNeg] | with_reducible refine vIf_t ?_ | with_reducible refine vIf_f ?_)))
    simp [okG9, e1]
  | true =>
    (try (repeat (first | simp (maxSteps := 2000000) (disch := omega) only [go_sem, ↓reduceIte, Nat.reduceEqDiff, Nat.reduceAdd, Nat.reduceMul, Nat.reduceSub, Int.reduceToNat, Int.reduceAdd, Int.reduceSub, Int.reduceMul, Int.reduceNeg, e1] | with_reducible refine vIf_t ?_ | with_reducible refine vIf_f ?_)))
    (refine vCallX_of ?_; (repeat (first | simp (maxSteps := 2000000) (disch := omega) only [go_sem, ↓reduceIte, Nat.reduceEqDiff, Nat.reduceAdd, Nat.reduceMul, Nat.reduceSub, Int.reduceToNat, Int.reduceAdd, Int.reduceSub, Int.reduceMul, Int.reduceNeg] | with_reducible refine vIf_t ?_ | with_reducible refine vIf_f ?_)); refine vCall_eq (h2) (by simp (disch := omega) only [go_sem, Nat.reduceAdd]) rfl (by first | exact Or.inl rfl | exact Or.inr ⟨rfl, rfl⟩ | (apply Or.inr; simp only [go_sem])) ?_; (repeat (first | simp (maxSteps := 2000000) (disch := omega) only [go_sem, ↓reduceIte, Nat.reduceEqDiff, Nat.reduceAdd, Nat.reduceMul, Nat.reduceSub, Int.reduceToNat, Int.reduceAdd, Int.reduceSub, Int.reduceMul, Int.reduceNeg] | with_reducible refine vIf_t ?_ | with_reducible refine vIf_f ?_)))
    (refine retK_of ?_; (repeat (first | simp (maxSteps := 2000000) (disch := omega) only [go_sem, ↓reduceIte, Nat.reduceEqDiff, Nat.reduceAdd, Nat.reduceMul, Nat.reduceSub, Int.reduceToNat, Int.reduceAdd, Int.reduceSub, Int.reduceMul, Int.reduceNeg] | with_reducible refine vIf_t ?_ | with_reducible refine vIf_f ?_)))
    simp [okG9, e1]
theorem isOrder_ok (n : Int) : ACalls Try.prog 80 [I n] [] (fun r o => r = B (decide (0 ≤ n ∧ n ≤ 2)) ∧ o = []) := by
  refine ACalls.of_vc Try.func80 rfl (by decide) 5 rfl [.tmp 2] rfl (by simp) ?_
  (repeat (first | simp (maxSteps := 2000000) (disch := omega) only [go_sem, ↓reduceIte, Nat.reduceEqDiff, Nat.reduceAdd, Nat.reduceMul, Nat.reduceSub, Int.reduceToNat, Int.reduceAdd, Int.reduceSub, Int.reduceMul, Int.reduceNeg] | with_reducible refine vIf_t ?_ | with_reducible refine vIf_f ?_))
  (refine vCallX_of ?_; (repeat (first | simp (maxSteps := 2000000) (disch := omega) only [go_sem, ↓reduceIte, Nat.reduceEqDiff, Nat.reduceAdd, Nat.reduceMul, Nat.reduceSub, Int.reduceToNat, Int.reduceAdd, Int.reduceSub, Int.reduceMul, Int.reduceNeg] | with_reducible refine vIf_t ?_ | with_reducible refine vIf_f ?_)); refine vCall_eq (in_ok n 0 2) (by simp (disch := omega) only [go_sem, Nat.reduceAdd]) rfl (by first | exact Or.inl rfl | exact Or.inr ⟨rfl, rfl⟩ | (apply Or.inr; simp only [go_sem])) ?_; (repeat (first | simp (maxSteps := 2000000) (disch := omega) only [go_sem, ↓reduceIte, Nat.reduceEqDiff, Nat.reduceAdd, Nat.reduceMul, Nat.reduceSub, Int.reduceToNat, Int.reduceAdd, Int.reduceSub, Int.reduceMul, Int.reduceNeg] | with_reducible refine vIf_t ?_ | with_reducible refine vIf_f ?_)))
  (refine retK_of ?_; (repeat (first | simp (maxSteps := 2000000) (disch := omega) only [go_sem, ↓reduceIte, Nat.reduceEqDiff, Nat.reduceAdd, Nat.reduceMul, Nat.reduceSub, Int.reduceToNat, Int.reduceAdd, Int.reduceSub, Int.reduceMul, Int.reduceNeg] | with_reducible refine vIf_t ?_ | with_reducible refine vIf_f ?_)))
theorem flow_ok (s : Slc) (i o : Int) (h : okS s = true) (hi : lvB i = true) (ho : lvB o = true) : ACalls Try.prog 102 [.agg s.cells, I i, I o] [] (fun r o' => r = I (flw s i o) ∧ o' = []) := by
  refine ACalls.of_vc Try.func102 rfl (by decide) 18 rfl [.tmp 6] rfl (by simp) ?_
  have h1 := okS_f h
  have h2 := lvB_f hi
  have h3 := lvB_f ho
  have hb := (flw_bd h hi ho).1
  have hc := flH_bd h hi ho
  have hq : -2000 ≤ mx0 o s.sill ∧ mx0 o s.sill ≤ 2000 := by unfold mx0; split <;> omega
  have ed : (s.wd * flH s i o).tdiv 10 = flw s i o := rfl
  have ef : flH s i o = mx0 0 (i - mx0 o s.sill) := rfl
  have hw := (flw_bd h hi ho).2
  have e1 : IntKind.wrap .i64 (s.wd * flH s i o) = s.wd * flH s i o := by (repeat (first | simp (maxSteps := 2000000) (disch := omega) only [go_sem, ↓reduceIte, Nat.reduceEqDiff, Nat.reduceAdd, Nat.reduceMul, Nat.reduceSub, Int.reduceToNat, Int.reduceAdd, Int.reduceSub, Int.reduceMul, Int.reduceNeg] | with_reducible refine vIf_t ?_ | with_reducible refine vIf_f ?_))
  have e2 : IntKind.wrap .i64 (flw s i o) = flw s i o := by (repeat (first | simp (maxSteps := 2000000) (disch := omega) only [go_sem, ↓reduceIte, Nat.reduceEqDiff, Nat.reduceAdd, Nat.reduceMul, Nat.reduceSub, Int.reduceToNat, Int.reduceAdd, Int.reduceSub, Int.reduceMul, Int.reduceNeg] | with_reducible refine vIf_t ?_ | with_reducible refine vIf_f ?_))
  generalize flw s i o = z at *
  generalize flH s i o = y at *
  subst ef
  have em : ∀ a b : Int, (if a < b then b else a) = mx0 a b := fun _ _ => rfl
  unfold Slc.cells
  (repeat (first | simp (maxSteps := 2000000) (disch := omega) only [go_sem, ↓reduceIte, Nat.reduceEqDiff, Nat.reduceAdd, Nat.reduceMul, Nat.reduceSub, Int.reduceToNat, Int.reduceAdd, Int.reduceSub, Int.reduceMul, Int.reduceNeg, em] | with_reducible refine vIf_t ?_ | with_reducible refine vIf_f ?_))
  (try (repeat (first | simp (maxSteps := 2000000) (disch := omega) only [go_sem, ↓reduceIte, Nat.reduceEqDiff, Nat.reduceAdd, Nat.reduceMul, Nat.reduceSub, Int.reduceToNat, Int.reduceAdd, Int.reduceSub, Int.reduceMul, Int.reduceNeg, em, e1, ed, e2] | with_reducible refine vIf_t ?_ | with_reducible refine vIf_f ?_)))
  (refine retK_of ?_; (repeat (first | simp (maxSteps := 2000000) (disch := omega) only [go_sem, ↓reduceIte, Nat.reduceEqDiff, Nat.reduceAdd, Nat.reduceMul, Nat.reduceSub, Int.reduceToNat, Int.reduceAdd, Int.reduceSub, Int.reduceMul, Int.reduceNeg] | with_reducible refine vIf_t ?_ | with_reducible refine vIf_f ?_)))
theorem l09Flow_ok (s : Slc) (i o : Int) (h : okS s = true) (hi : lvB i = true) (ho : lvB o = true) : ACalls Try.prog 91 [.agg s.cells, I i, I o] [] (fun r o' => r = I (flw s i o) ∧ o' = []) := by
  refine ACalls.of_vc Try.func91 rfl (by decide) 18 rfl [.tmp 6] rfl (by simp) ?_
  have h1 := okS_f h
  have h2 := lvB_f hi
  have h3 := lvB_f ho
  have hb := (flw_bd h hi ho).1
  have hc := flH_bd h hi ho
  have hq : -2000 ≤ mx0 o s.sill ∧ mx0 o s.sill ≤ 2000 := by unfold mx0; split <;> omega
  have ed : (s.wd * flH s i o).tdiv 10 = flw s i o := rfl
  have ef : flH s i o = mx0 0 (i - mx0 o s.sill) := rfl
  have hw := (flw_bd h hi ho).2
  have e1 : IntKind.wrap .i64 (s.wd * flH s i o) = s.wd * flH s i o := by (repeat (first | simp (maxSteps := 2000000) (disch := omega) only [go_sem, ↓reduceIte, Nat.reduceEqDiff, Nat.reduceAdd, Nat.reduceMul, Nat.reduceSub, Int.reduceToNat, Int.reduceAdd, Int.reduceSub, Int.reduceMul, Int.reduceNeg] | with_reducible refine vIf_t ?_ | with_reducible refine vIf_f ?_))
  have e2 : IntKind.wrap .i64 (flw s i o) = flw s i o := by (repeat (first | simp (maxSteps := 2000000) (disch := omega) only [go_sem, ↓reduceIte, Nat.reduceEqDiff, Nat.reduceAdd, Nat.reduceMul, Nat.reduceSub, Int.reduceToNat, Int.reduceAdd, Int.reduceSub, Int.reduceMul, Int.reduceNeg] | with_reducible refine vIf_t ?_ | with_reducible refine vIf_f ?_))
  have m1 := bMax_ok o s.sill
  have m2 := bMax_ok 0 (i - mx0 o s.sill)
  rw [mx0_e] at m1 m2
  rw [← ef] at m2
  generalize flw s i o = z at *
  generalize flH s i o = y at *
  generalize mx0 o s.sill = q at *
  unfold Slc.cells
  (repeat (first | simp (maxSteps := 2000000) (disch := omega) only [go_sem, ↓reduceIte, Nat.reduceEqDiff, Nat.reduceAdd, Nat.reduceMul, Nat.reduceSub, Int.reduceToNat, Int.reduceAdd, Int.reduceSub, Int.reduceMul, Int.reduceNeg] | with_reducible refine vIf_t ?_ | with_reducible refine vIf_f ?_))
  (refine vDraw_sch 9 [(0, false), (2, false), (3, false), (4, false), (1, false), (5, true), (6, false), (7, false), (8, false)] mixed (by kernel_rfl) ?_; simp only [List.cons_append, List.nil_append, List.map_cons, List.map_nil, nthO_zero, nthO_succ, List.drop_succ_cons, List.drop_zero, List.drop_nil]; (repeat (first | simp (maxSteps := 2000000) (disch := omega) only [go_sem, ↓reduceIte, Nat.reduceEqDiff, Nat.reduceAdd, Nat.reduceMul, Nat.reduceSub, Int.reduceToNat, Int.reduceAdd, Int.reduceSub, Int.reduceMul, Int.reduceNeg] | with_reducible refine vIf_t ?_ | with_reducible refine vIf_f ?_)))
  (refine vsCallX_of ?_; (try (repeat (first | simp (maxSteps := 2000000) (disch := omega) only [go_sem, ↓reduceIte, Nat.reduceEqDiff, Nat.reduceAdd, Nat.reduceMul, Nat.reduceSub, Int.reduceToNat, Int.reduceAdd, Int.reduceSub, Int.reduceMul, Int.reduceNeg] | with_reducible refine vIf_t ?_ | with_reducible refine vIf_f ?_))); refine vCall_eq (m1) (by simp (disch := omega) only [go_sem, Nat.reduceAdd]) rfl (by first | exact Or.inl rfl | exact Or.inr ⟨rfl, rfl⟩ | (apply Or.inr; simp only [go_sem])) ?_; (try (repeat (first | simp (maxSteps := 2000000) (disch := omega) only [go_sem, ↓reduceIte, Nat.reduceEqDiff, Nat.reduceAdd, Nat.reduceMul, Nat.reduceSub, Int.reduceToNat, Int.reduceAdd, Int.reduceSub, Int.reduceMul, Int.reduceNeg] | with_reducible refine vIf_t ?_ | with_reducible refine vIf_f ?_))))
  (try (repeat (first | simp (maxSteps := 2000000) (disch := omega) only [go_sem, ↓reduceIte, Nat.reduceEqDiff, Nat.reduceAdd, Nat.reduceMul, Nat.reduceSub, Int.reduceToNat, Int.reduceAdd, Int.reduceSub, Int.reduceMul, Int.reduceNeg] | with_reducible refine vIf_t ?_ | with_reducible refine vIf_f ?_)))
  (refine vsCallX_of ?_; (try (repeat (first | simp (maxSteps := 2000000) (disch := omega) only [go_sem, ↓reduceIte, Nat.reduceEqDiff, Nat.reduceAdd, Nat.reduceMul, Nat.reduceSub, Int.reduceToNat, Int.reduceAdd, Int.reduceSub, Int.reduceMul, Int.reduceNeg] | with_reducible refine vIf_t ?_ | with_reducible refine vIf_f ?_))); refine vCall_eq (m2) (by simp (disch := omega) only [go_sem, Nat.reduceAdd]) rfl (by first | exact Or.inl rfl | exact Or.inr ⟨rfl, rfl⟩ | (apply Or.inr; simp only [go_sem])) ?_; (try (repeat (first | simp (maxSteps := 2000000) (disch := omega) only [go_sem, ↓reduceIte, Nat.reduceEqDiff, Nat.reduceAdd, Nat.reduceMul, Nat.reduceSub, Int.reduceToNat, Int.reduceAdd, Int.reduceSub, Int.reduceMul, Int.reduceNeg] | with_reducible refine vIf_t ?_ | with_reducible refine vIf_f ?_))))
  (try (repeat (first | simp (maxSteps := 2000000) (disch := omega) only [go_sem, ↓reduceIte, Nat.reduceEqDiff, Nat.reduceAdd, Nat.reduceMul, Nat.reduceSub, Int.reduceToNat, Int.reduceAdd, Int.reduceSub, Int.reduceMul, Int.reduceNeg, e1, ed, e2] | with_reducible refine vIf_t ?_ | with_reducible refine vIf_f ?_)))
  (refine retK_of ?_; (repeat (first | simp (maxSteps := 2000000) (disch := omega) only [go_sem, ↓reduceIte, Nat.reduceEqDiff, Nat.reduceAdd, Nat.reduceMul, Nat.reduceSub, Int.reduceToNat, Int.reduceAdd, Int.reduceSub, Int.reduceMul, Int.reduceNeg] | with_reducible refine vIf_t ?_ | with_reducible refine vIf_f ?_)))
end Go.Proofs.Ythnphcinjchloaa

/- parts of the proof of the law, sliced: what it needs of the texts Gat1, Gat2, Util, Gat3a, FzC, RowR, Slu1, Ixs, Slu2. Conditions: none. -/
import Derived.Test.YtpjjjonplikilaaGreatSlA
import Derived.Test.YtpjjjonplikilaaGreatSlB
import Derived.Test.YtpjjjonplikilaaGreatSlC
import Derived.Test.YtpjjjonplikilaaGreatAgZ
import Derived.Test.YtpjjjonplikilaaGreatAgT
set_option linter.unusedVariables false
set_option linter.unusedSimpArgs false
namespace Go.Proofs.YtpjjjonplikilaaGreat
open Go.AG

attribute [local go_sem] beq_self_eq_true bne_self_eq_false Bool.not_true Bool.not_false
structure Slc where
  wd : Int
  sill : Int
  deriving Inhabited, DecidableEq
def Slc.cells (d : Slc) : List V := [.sc (.int .i64 d.wd), .sc (.int .i64 d.sill)]
def gSlc (ds : List Slc) (i : Nat) : Slc := ds.getD i default
theorem gSlc_set_same (ds : List Slc) (i : Nat) (d : Slc) (h : i < ds.length) : gSlc (ds.set i d) i = d := by simp [gSlc, h]
attribute [go_sem] gSlc_set_same
structure Gt where
  op : Bool
  ps : Int
  mv : Int
  deriving Inhabited, DecidableEq
def Gt.cells (d : Gt) : List V := [.sc (.bool d.op), .sc (.int .i64 d.ps), .sc (.int .i64 d.mv)]
def cGt (ds : List Gt) : List V := ds.flatMap Gt.cells
def gGt (ds : List Gt) (i : Nat) : Gt := ds.getD i default
theorem gGt_lt (ds : List Gt) (i : Nat) (h : i < ds.length) : gGt ds i = ds[i] := by simp [gGt, h]
theorem gGt_take_succ (ds : List Gt) (i : Nat) (h : i < ds.length) : ds.take (i + 1) = ds.take i ++ [gGt ds i] := by rw [List.take_succ_eq_append_getElem h, gGt_lt ds i h]
theorem gGt_set_same (ds : List Gt) (i : Nat) (d : Gt) (h : i < ds.length) : gGt (ds.set i d) i = d := by simp [gGt, h]
@[go_sem] theorem length_cGt (ds : List Gt) : (cGt ds).length = ds.length * 3 := (rsLen Gt.cells 3 (fun _ => rfl) ds)
@[go_sem] theorem cGt_nil : cGt [] = [] := rfl
@[go_sem] theorem cGt_append (xs ys : List Gt) : cGt xs ++ cGt ys = cGt (xs ++ ys) := by simp [cGt]
@[go_sem] theorem cGt_snoc (xs : List Gt) (op : Bool) (ps : Int) (mv : Int) : cGt xs ++ [.sc (.bool op), .sc (.int .i64 ps), .sc (.int .i64 mv)] = cGt (xs ++ [⟨op, ps, mv⟩]) := by simp [cGt, Gt.cells]
@[go_sem] theorem cGt_take (ds : List Gt) (n : Nat) : (cGt ds).take (n * 3) = cGt (ds.take n) := rsTake Gt.cells 3 (fun _ => rfl) ds n
@[go_sem] theorem cGt_take_all (ds : List Gt) (n : Nat) (h : ds.length * 3 ≤ n) : (cGt ds).take n = cGt ds := List.take_of_length_le (by rw [length_cGt]; exact h)
@[go_sem] theorem cGt_drop (ds : List Gt) (n : Nat) : (cGt ds).drop (n * 3) = cGt (ds.drop n) := rsDrop Gt.cells 3 (fun _ => rfl) ds n
@[go_sem high] theorem vPart_cGt (ds : List Gt) (i : Nat) (K : V → Prop) : vPart true 3 (cGt ds) (i * 3) K = grd (i < ds.length) (K (.agg [.sc (.bool (gGt ds i).op), .sc (.int .i64 (gGt ds i).ps), .sc (.int .i64 (gGt ds i).mv)])) := rsPart Gt.cells 3 (fun _ => rfl) (by omega) ds i K
@[go_sem] theorem cGt_at (ds : List Gt) (n : Nat) (h : n < ds.length) : (cGt (ds.drop n)).take 3 = [.sc (.bool (gGt ds n).op), .sc (.int .i64 (gGt ds n).ps), .sc (.int .i64 (gGt ds n).mv)] := by rw [List.drop_eq_getElem_cons h, gGt_lt ds n h]; rfl
@[go_sem] theorem cGt_at0 (ds : List Gt) (h : 0 < ds.length) : (cGt ds).take 3 = [.sc (.bool (gGt ds 0).op), .sc (.int .i64 (gGt ds 0).ps), .sc (.int .i64 (gGt ds 0).mv)] := by cases ds with | nil => simp at h | cons x r => rfl
@[go_sem] theorem vAt_cGt_0 (ds : List Gt) (i : Nat) (K : V → Prop) : vAt (cGt ds) (i * 3) K = grd (i < ds.length) (K (.sc (.bool (gGt ds i).op))) := rsAt Gt.cells 3 (fun _ => rfl) ds i 0 (by omega) (fun d => .sc (.bool d.op)) (fun _ => rfl) K
@[go_sem] theorem wr_cGt_0 (ds : List Gt) (i : Nat) (x : Bool) (h : i < ds.length) : wr (cGt ds) (i * 3) [.sc (.bool x)] = cGt (ds.set i {gGt ds i with op := x}) := rsWr Gt.cells 3 (fun _ => rfl) ds i 0 (by omega) h _ _ rfl
@[go_sem] theorem vAt_cGt_1 (ds : List Gt) (i : Nat) (K : V → Prop) : vAt (cGt ds) (i * 3 + 1) K = grd (i < ds.length) (K (.sc (.int .i64 (gGt ds i).ps))) := rsAt Gt.cells 3 (fun _ => rfl) ds i 1 (by omega) (fun d => .sc (.int .i64 d.ps)) (fun _ => rfl) K
@[go_sem] theorem wr_cGt_1 (ds : List Gt) (i : Nat) (x : Int) (h : i < ds.length) : wr (cGt ds) (i * 3 + 1) [.sc (.int .i64 x)] = cGt (ds.set i {gGt ds i with ps := x}) := rsWr Gt.cells 3 (fun _ => rfl) ds i 1 (by omega) h _ _ rfl
@[go_sem] theorem vAt_cGt_2 (ds : List Gt) (i : Nat) (K : V → Prop) : vAt (cGt ds) (i * 3 + 2) K = grd (i < ds.length) (K (.sc (.int .i64 (gGt ds i).mv))) := rsAt Gt.cells 3 (fun _ => rfl) ds i 2 (by omega) (fun d => .sc (.int .i64 d.mv)) (fun _ => rfl) K
@[go_sem] theorem wr_cGt_2 (ds : List Gt) (i : Nat) (x : Int) (h : i < ds.length) : wr (cGt ds) (i * 3 + 2) [.sc (.int .i64 x)] = cGt (ds.set i {gGt ds i with mv := x}) := rsWr Gt.cells 3 (fun _ => rfl) ds i 2 (by omega) h _ _ rfl
@[go_sem] theorem wr_cGt_0_set (ds : List Gt) (i i0 : Nat) (d : Gt) (x : Bool) (h : i < ds.length) : wr (cGt (ds.set i0 d)) (i * 3) [.sc (.bool x)] = cGt ((ds.set i0 d).set i {gGt (ds.set i0 d) i with op := x}) := wr_cGt_0 _ _ _ (by rw [List.length_set]; exact h)
@[go_sem] theorem wr_cGt_1_set (ds : List Gt) (i i0 : Nat) (d : Gt) (x : Int) (h : i < ds.length) : wr (cGt (ds.set i0 d)) (i * 3 + 1) [.sc (.int .i64 x)] = cGt ((ds.set i0 d).set i {gGt (ds.set i0 d) i with ps := x}) := wr_cGt_1 _ _ _ (by rw [List.length_set]; exact h)
@[go_sem] theorem wr_cGt_2_set (ds : List Gt) (i i0 : Nat) (d : Gt) (x : Int) (h : i < ds.length) : wr (cGt (ds.set i0 d)) (i * 3 + 2) [.sc (.int .i64 x)] = cGt ((ds.set i0 d).set i {gGt (ds.set i0 d) i with mv := x}) := wr_cGt_2 _ _ _ (by rw [List.length_set]; exact h)
attribute [go_sem] gGt_set_same
@[go_sem] theorem wr_cGt_all (ds : List Gt) (i : Nat) (op : Bool) (ps : Int) (mv : Int) (h : i < ds.length) : wr (cGt ds) (i * 3) [.sc (.bool op), .sc (.int .i64 ps), .sc (.int .i64 mv)] = cGt (ds.set i ⟨op, ps, mv⟩) := rsWrAll Gt.cells 3 (fun _ => rfl) ds i h ⟨op, ps, mv⟩
@[go_sem] theorem imm_cGt (ds : List Gt) : V.immL (cGt ds) = true := by induction ds with | nil => rfl | cons x xs ih => exact ih
@[go_sem] theorem one_cGt (ds : List Gt) : V.oneL (cGt ds) = true := by induction ds with | nil => rfl | cons x xs ih => exact ih
@[go_sem] theorem noref_cGt (ds : List Gt) : V.norefL (cGt ds) = true := by induction ds with | nil => rfl | cons x xs ih => exact ih
@[go_sem] theorem flat_cGt (ds : List Gt) : V.flatL (cGt ds) = true := by induction ds with | nil => rfl | cons x xs ih => exact ih
@[go_sem] theorem kill_cGt (p : Nat → Bool) (ds : List Gt) : V.killL p (cGt ds) = cGt ds := killL_noref p _ (noref_cGt ds)
@[go_sem] theorem frz_cGt (f : Nat → Option Ob) (ds : List Gt) : V.frzL f (cGt ds) = cGt ds := frzL_noref f _ (noref_cGt ds)
@[go_sem] theorem ren_cGt (g : Nat → Nat) (ds : List Gt) : V.renL g (cGt ds) = cGt ds := by induction ds with | nil => rfl | cons x xs ih => exact congrArg (x.cells ++ ·) ih
@[go_sem] theorem reps_cGt (n : Nat) : reps n [V.sc (.bool false), V.sc (.int .i64 0), V.sc (.int .i64 0)] = cGt (List.replicate n ⟨false, 0, 0⟩) := rsReps Gt.cells n ⟨false, 0, 0⟩
@[go_sem] theorem map_cGt_inj (xs ys : List Gt) : (cGt xs = cGt ys) = (xs = ys) := propext ⟨rsInj Gt.cells 3 (fun _ => rfl) (by omega) (fun a b h => by cases a; cases b; simpa [Gt.cells] using h) xs ys, fun h => by rw [h]⟩
@[go_sem] theorem cGt_rep0 (d : Gt) : cGt (List.replicate 0 d) = [] := rfl
@[go_sem] theorem wr_cGt_rep1 (d : Gt) (op : Bool) (ps : Int) (mv : Int) : wr (cGt (List.replicate 1 d)) 0 [.sc (.bool op), .sc (.int .i64 ps), .sc (.int .i64 mv)] = cGt [⟨op, ps, mv⟩] := rfl
@[go_sem] theorem cGt_take1 (d : Gt) : (cGt [d]).take 3 = cGt [d] := rfl
def okS (s : Slc) : Bool := decide (1 ≤ s.wd ∧ s.wd ≤ 5000) && lvB s.sill
def okG9 (g : Gt) : Bool := decide (0 ≤ g.ps ∧ g.ps ≤ 1000000000) && decide (0 ≤ g.mv ∧ g.mv ≤ 1000000)
def mx0 (a b : Int) : Int := if a < b then b else a
def flH (s : Slc) (i o : Int) : Int := mx0 0 (i - mx0 o s.sill)
def flw (s : Slc) (i o : Int) : Int := (s.wd * flH s i o).tdiv 10
def zG : Gt := ⟨false, 0, 0⟩
def finG (q : Gt) : Gt × Int := if okG9 q = true then (q, 0) else (zG, 5)
def opn (g : Gt) (ord i o : Int) : Bool := decide (ord = 1) || (decide (ord = 0) && (g.op && decide (o < i)))
def stpS (s : Slc) (g : Gt) (ord i o : Int) : Gt × Int := if ord = 1 ∧ i ≤ o then (zG, 10) else finG ⟨opn g ord i o, if opn g ord i o = true then g.ps + flw s i o else g.ps, if opn g ord i o = g.op then g.mv else g.mv + 1⟩
theorem okS_f {s : Slc} (h : okS s = true) : (1 ≤ s.wd ∧ s.wd ≤ 5000) ∧ -2000 ≤ s.sill ∧ s.sill ≤ 2000 := by
  simp only [okS, Bool.and_eq_true, decide_eq_true_eq] at h
  exact ⟨h.1, lvB_f h.2⟩
theorem okG9_f {g : Gt} (h : okG9 g = true) : (0 ≤ g.ps ∧ g.ps ≤ 1000000000) ∧ 0 ≤ g.mv ∧ g.mv ≤ 1000000 := by
  simpa only [okG9, Bool.and_eq_true, decide_eq_true_eq] using h
theorem flH_bd {s : Slc} {i o : Int} (h : okS s = true) (hi : lvB i = true) (ho : lvB o = true) : 0 ≤ flH s i o ∧ flH s i o ≤ 4000 := by
  have := okS_f h
  have := lvB_f hi
  have := lvB_f ho
  unfold flH mx0
  split <;> split <;> omega
theorem flw_bd {s : Slc} {i o : Int} (h : okS s = true) (hi : lvB i = true) (ho : lvB o = true) : (0 ≤ s.wd * flH s i o ∧ s.wd * flH s i o ≤ 20000000) ∧ 0 ≤ flw s i o ∧ flw s i o ≤ 2000000 := by
  have h1 := okS_f h
  have h2 := flH_bd h hi ho
  have h3 : 0 ≤ s.wd * flH s i o := Int.mul_nonneg (by omega) h2.1
  have h4 : s.wd * flH s i o ≤ 5000 * 4000 := Int.mul_le_mul h1.1.2 h2.2 h2.1 (by omega)
  refine ⟨⟨h3, by omega⟩, ?_⟩
  unfold flw
  rw [Int.tdiv_eq_ediv_of_nonneg h3]
  omega
theorem validSl_ok (s : Slc) : ACalls Tryz.prog 39 [.agg s.cells] [] (fun r o => r = B (okS s) ∧ o = []) := by
  refine ACalls.of_vc Tryz.func39 rfl (by decide) 11 rfl [.tmp 2] rfl (by simp) ?_
  have h1 := in_ok s.wd 1 5000
  have h2 := bLev_ok s.sill
  unfold Slc.cells
  (repeat (first | simp (maxSteps := 2000000) (disch := omega) only [go_sem, ↓reduceIte] | with_reducible refine vIf_t ?_ | with_reducible refine vIf_f ?_))
  (refine vCallX_of ?_; (repeat (first | simp (maxSteps := 2000000) (disch := omega) only [go_sem, ↓reduceIte] | with_reducible refine vIf_t ?_ | with_reducible refine vIf_f ?_)); refine vCall_eq (h1) (by simp (disch := omega) only [go_sem]) rfl (by first | exact Or.inl rfl | exact Or.inr ⟨rfl, rfl⟩ | (apply Or.inr; simp only [go_sem])) ?_; (repeat (first | simp (maxSteps := 2000000) (disch := omega) only [go_sem, ↓reduceIte] | with_reducible refine vIf_t ?_ | with_reducible refine vIf_f ?_)))
  cases e1 : decide (1 ≤ s.wd ∧ s.wd ≤ 5000) with
  | false =>
    (try (repeat (first | simp (maxSteps := 2000000) (disch := omega) only [go_sem, ↓reduceIte, e1] | with_reducible refine vIf_t ?_ | with_reducible refine vIf_f ?_)))
    (refine retK_of ?_; (repeat (first | simp (maxSteps := 2000000) (disch := omega) only [go_sem, ↓reduceIte] | with_reducible refine vIf_t ?_ | with_reducible refine vIf_f ?_)))
    simp [okS, e1]
  | true =>
    (try (repeat (first | simp (maxSteps := 2000000) (disch := omega) only [go_sem, ↓reduceIte, e1] | with_reducible refine vIf_t ?_ | with_reducible refine vIf_f ?_)))
    (refine vCallX_of ?_; (repeat (first | simp (maxSteps := 2000000) (disch := omega) only [go_sem, ↓reduceIte] | with_reducible refine vIf_t ?_ | with_reducible refine vIf_f ?_)); refine vCall_eq (h2) (by simp (disch := omega) only [go_sem]) rfl (by first | exact Or.inl rfl | exact Or.inr ⟨rfl, rfl⟩ | (apply Or.inr; simp only [go_sem])) ?_; (repeat (first | simp (maxSteps := 2000000) (disch := omega) only [go_sem, ↓reduceIte] | with_reducible refine vIf_t ?_ | with_reducible refine vIf_f ?_)))
    (refine retK_of ?_; (repeat (first | simp (maxSteps := 2000000) (disch := omega) only [go_sem, ↓reduceIte] | with_reducible refine vIf_t ?_ | with_reducible refine vIf_f ?_)))
    simp [okS, e1]
theorem l09Ok_ok (s : Slc) : ACalls Tryz.prog 102 [.agg s.cells] [] (fun r o => r = B (okS s) ∧ o = []) := by
  refine ACalls.of_vc Tryz.func102 rfl (by decide) 11 rfl [.tmp 2] rfl (by simp) ?_
  have h1 := inS_ok s.wd 1 5000
  have h2 := bLevS_ok s.sill
  unfold Slc.cells
  (repeat (first | simp (maxSteps := 2000000) (disch := omega) only [go_sem, ↓reduceIte] | with_reducible refine vIf_t ?_ | with_reducible refine vIf_f ?_))
  (refine vCallX_of ?_; (repeat (first | simp (maxSteps := 2000000) (disch := omega) only [go_sem, ↓reduceIte] | with_reducible refine vIf_t ?_ | with_reducible refine vIf_f ?_)); refine vCall_eq (h1) (by simp (disch := omega) only [go_sem]) rfl (by first | exact Or.inl rfl | exact Or.inr ⟨rfl, rfl⟩ | (apply Or.inr; simp only [go_sem])) ?_; (repeat (first | simp (maxSteps := 2000000) (disch := omega) only [go_sem, ↓reduceIte] | with_reducible refine vIf_t ?_ | with_reducible refine vIf_f ?_)))
  cases e1 : decide (1 ≤ s.wd ∧ s.wd ≤ 5000) with
  | false =>
    (try (repeat (first | simp (maxSteps := 2000000) (disch := omega) only [go_sem, ↓reduceIte, e1] | with_reducible refine vIf_t ?_ | with_reducible refine vIf_f ?_)))
    (refine retK_of ?_; (repeat (first | simp (maxSteps := 2000000) (disch := omega) only [go_sem, ↓reduceIte] | with_reducible refine vIf_t ?_ | with_reducible refine vIf_f ?_)))
    simp [okS, e1]
  | true =>
    (try (repeat (first | simp (maxSteps := 2000000) (disch := omega) only [go_sem, ↓reduceIte, e1] | with_reducible refine vIf_t ?_ | with_reducible refine vIf_f ?_)))
    (refine vCallX_of ?_; (repeat (first | simp (maxSteps := 2000000) (disch := omega) only [go_sem, ↓reduceIte] | with_reducible refine vIf_t ?_ | with_reducible refine vIf_f ?_)); refine vCall_eq (h2) (by simp (disch := omega) only [go_sem]) rfl (by first | exact Or.inl rfl | exact Or.inr ⟨rfl, rfl⟩ | (apply Or.inr; simp only [go_sem])) ?_; (repeat (first | simp (maxSteps := 2000000) (disch := omega) only [go_sem, ↓reduceIte] | with_reducible refine vIf_t ?_ | with_reducible refine vIf_f ?_)))
    (refine retK_of ?_; (repeat (first | simp (maxSteps := 2000000) (disch := omega) only [go_sem, ↓reduceIte] | with_reducible refine vIf_t ?_ | with_reducible refine vIf_f ?_)))
    simp [okS, e1]
theorem validGt_ok (g : Gt) : ACalls Tryz.prog 73 [.agg g.cells] [] (fun r o => r = B (okG9 g) ∧ o = []) := by
  refine ACalls.of_vc Tryz.func73 rfl (by decide) 11 rfl [.tmp 2] rfl (by simp) ?_
  have h1 := in_ok g.ps 0 1000000000
  have h2 := in_ok g.mv 0 1000000
  unfold Gt.cells
  (repeat (first | simp (maxSteps := 2000000) (disch := omega) only [go_sem, ↓reduceIte] | with_reducible refine vIf_t ?_ | with_reducible refine vIf_f ?_))
  (refine vCallX_of ?_; (repeat (first | simp (maxSteps := 2000000) (disch := omega) only [go_sem, ↓reduceIte] | with_reducible refine vIf_t ?_ | with_reducible refine vIf_f ?_)); refine vCall_eq (h1) (by simp (disch := omega) only [go_sem]) rfl (by first | exact Or.inl rfl | exact Or.inr ⟨rfl, rfl⟩ | (apply Or.inr; simp only [go_sem])) ?_; (repeat (first | simp (maxSteps := 2000000) (disch := omega) only [go_sem, ↓reduceIte] | with_reducible refine vIf_t ?_ | with_reducible refine vIf_f ?_)))
  cases e1 : decide (0 ≤ g.ps ∧ g.ps ≤ 1000000000) with
  | false =>
    (try (repeat (first | simp (maxSteps := 2000000) (disch := omega) only [go_sem, ↓reduceIte, e1] | with_reducible refine vIf_t ?_ | with_reducible refine vIf_f ?_)))
    (refine retK_of ?_; (repeat (first | simp (maxSteps := 2000000) (disch := omega) only [go_sem, ↓reduceIte] | with_reducible refine vIf_t ?_ | with_reducible refine vIf_f ?_)))
    simp [okG9, e1]
  | true =>
    (try (repeat (first | simp (maxSteps := 2000000) (disch := omega) only [go_sem, ↓reduceIte, e1] | with_reducible refine vIf_t ?_ | with_reducible refine vIf_f ?_)))
    (refine vCallX_of ?_; (repeat (first | simp (maxSteps := 2000000) (disch := omega) only [go_sem, ↓reduceIte] | with_reducible refine vIf_t ?_ | with_reducible refine vIf_f ?_)); refine vCall_eq (h2) (by simp (disch := omega) only [go_sem]) rfl (by first | exact Or.inl rfl | exact Or.inr ⟨rfl, rfl⟩ | (apply Or.inr; simp only [go_sem])) ?_; (repeat (first | simp (maxSteps := 2000000) (disch := omega) only [go_sem, ↓reduceIte] | with_reducible refine vIf_t ?_ | with_reducible refine vIf_f ?_)))
    (refine retK_of ?_; (repeat (first | simp (maxSteps := 2000000) (disch := omega) only [go_sem, ↓reduceIte] | with_reducible refine vIf_t ?_ | with_reducible refine vIf_f ?_)))
    simp [okG9, e1]
theorem isOrder_ok (n : Int) : ACalls Tryz.prog 41 [I n] [] (fun r o => r = B (decide (0 ≤ n ∧ n ≤ 2)) ∧ o = []) := by
  refine ACalls.of_vc Tryz.func41 rfl (by decide) 5 rfl [.tmp 2] rfl (by simp) ?_
  (repeat (first | simp (maxSteps := 2000000) (disch := omega) only [go_sem, ↓reduceIte] | with_reducible refine vIf_t ?_ | with_reducible refine vIf_f ?_))
  (refine vCallX_of ?_; (repeat (first | simp (maxSteps := 2000000) (disch := omega) only [go_sem, ↓reduceIte] | with_reducible refine vIf_t ?_ | with_reducible refine vIf_f ?_)); refine vCall_eq (in_ok n 0 2) (by simp (disch := omega) only [go_sem]) rfl (by first | exact Or.inl rfl | exact Or.inr ⟨rfl, rfl⟩ | (apply Or.inr; simp only [go_sem])) ?_; (repeat (first | simp (maxSteps := 2000000) (disch := omega) only [go_sem, ↓reduceIte] | with_reducible refine vIf_t ?_ | with_reducible refine vIf_f ?_)))
  (refine retK_of ?_; (repeat (first | simp (maxSteps := 2000000) (disch := omega) only [go_sem, ↓reduceIte] | with_reducible refine vIf_t ?_ | with_reducible refine vIf_f ?_)))
theorem flow_ok (s : Slc) (i o : Int) (h : okS s = true) (hi : lvB i = true) (ho : lvB o = true) : ACalls Tryz.prog 72 [.agg s.cells, I i, I o] [] (fun r o' => r = I (flw s i o) ∧ o' = []) := by
  refine ACalls.of_vc Tryz.func72 rfl (by decide) 18 rfl [.tmp 6] rfl (by simp) ?_
  have h1 := okS_f h
  have h2 := lvB_f hi
  have h3 := lvB_f ho
  have hb := (flw_bd h hi ho).1
  have hc := flH_bd h hi ho
  have hq : -2000 ≤ mx0 o s.sill ∧ mx0 o s.sill ≤ 2000 := by unfold mx0; split <;> omega
  have ed : (s.wd * flH s i o).tdiv 10 = flw s i o := rfl
  have ef : flH s i o = mx0 0 (i - mx0 o s.sill) := rfl
  have hw := (flw_bd h hi ho).2
  have e1 : IntKind.wrap .i64 (s.wd * flH s i o) = s.wd * flH s i o := by (repeat (first | simp (maxSteps := 2000000) (disch := omega) only [go_sem, ↓reduceIte] | with_reducible refine vIf_t ?_ | with_reducible refine vIf_f ?_))
  have e2 : IntKind.wrap .i64 (flw s i o) = flw s i o := by (repeat (first | simp (maxSteps := 2000000) (disch := omega) only [go_sem, ↓reduceIte] | with_reducible refine vIf_t ?_ | with_reducible refine vIf_f ?_))
  generalize flw s i o = z at *
  generalize flH s i o = y at *
  subst ef
  have em : ∀ a b : Int, (if a < b then b else a) = mx0 a b := fun _ _ => rfl
  unfold Slc.cells
  (repeat (first | simp (maxSteps := 2000000) (disch := omega) only [go_sem, ↓reduceIte, em] | with_reducible refine vIf_t ?_ | with_reducible refine vIf_f ?_))
  (try (repeat (first | simp (maxSteps := 2000000) (disch := omega) only [go_sem, ↓reduceIte, em, e1, ed, e2] | with_reducible refine vIf_t ?_ | with_reducible refine vIf_f ?_)))
  (refine retK_of ?_; (repeat (first | simp (maxSteps := 2000000) (disch := omega) only [go_sem, ↓reduceIte] | with_reducible refine vIf_t ?_ | with_reducible refine vIf_f ?_)))
end Go.Proofs.YtpjjjonplikilaaGreat
namespace Go.Proofs.YtpjjjonplikilaaGreat
open Go.AG

attribute [local go_sem] beq_self_eq_true bne_self_eq_false Bool.not_true Bool.not_false
theorem bft : (false == true) = false := _root_.id rfl
theorem btf : (true == false) = false := _root_.id rfl
attribute [local go_sem] bft btf
theorem finG_y {q : Gt} (h : okG9 q = true) : finG q = (q, 0) := if_pos h
theorem finG_n {q : Gt} (h : okG9 q = false) : finG q = (zG, 5) := if_neg (by rw [h]; simp)
set_option maxHeartbeats 4000000 in
theorem step_ok (s : Slc) (g : Gt) (ord i o : Int) (hs : okS s = true) (hg : okG9 g = true) (hi : lvB i = true) (ho : lvB o = true) (h : 0 ≤ ord ∧ ord ≤ 2) : ACalls Tryz.prog 42 [.agg s.cells, .agg g.cells, I ord, I i, I o] [] (fun r o' => r = .tup [.agg (stpS s g ord i o).1.cells, I (stpS s g ord i o).2] ∧ o' = []) := by
  refine ACalls.of_vc Tryz.func42 rfl (by decide) 60 rfl [.cell 10 42, .tmp 11] rfl (by simp) ?_
  have hf := flow_ok s i o hs hi ho
  have hw := (flw_bd hs hi ho).2
  have hgg := okG9_f hg
  obtain ⟨op, ps, mv⟩ := g
  have hord : ord = 0 ∨ ord = 1 ∨ ord = 2 := by omega
  have he : ∀ q : Gt, finG ⟨q.op, q.ps, q.mv⟩ = finG q := fun q => rfl
  have hop : ∀ ord, stpS s ⟨op, ps, mv⟩ ord i o = if ord = 1 ∧ i ≤ o then (zG, 10) else finG ⟨opn ⟨op, ps, mv⟩ ord i o, if opn ⟨op, ps, mv⟩ ord i o = true then ps + flw s i o else ps, if opn ⟨op, ps, mv⟩ ord i o = op then mv else mv + 1⟩ := fun _ => rfl
  rw [hop]
  unfold opn
  simp only at hgg
  generalize flw s i o = z at *
  have hv := validGt_ok
  unfold Slc.cells at *
  unfold Gt.cells at *
  rcases hord with rfl | rfl | rfl
  · cases op with
    | false =>
      have e : (if (0 : Int) = 1 ∧ i ≤ o then (zG, 10) else finG ⟨(decide ((0 : Int) = 1) || (decide ((0 : Int) = 0) && (false && decide (o < i)))), if (decide ((0 : Int) = 1) || (decide ((0 : Int) = 0) && (false && decide (o < i)))) = true then ps + z else ps, if (decide ((0 : Int) = 1) || (decide ((0 : Int) = 0) && (false && decide (o < i)))) = false then mv else mv + 1⟩) = finG ⟨false, ps, mv⟩ := by simp
      rw [e]
      (repeat (first | simp (maxSteps := 2000000) (disch := omega) only [go_sem, ↓reduceIte] | with_reducible refine vIf_t ?_ | with_reducible refine vIf_f ?_))
      have hv := hv ⟨false, ps, mv⟩
      cases hq : okG9 ⟨false, ps, mv⟩ with
      | false =>
        rw [finG_n hq]
        rw [hq] at hv
        (refine vCallX_of ?_; (repeat (first | simp (maxSteps := 2000000) (disch := omega) only [go_sem, ↓reduceIte] | with_reducible refine vIf_t ?_ | with_reducible refine vIf_f ?_)); refine vCall_eq (hv) (by simp (disch := omega) only [go_sem]) rfl (by first | exact Or.inl rfl | exact Or.inr ⟨rfl, rfl⟩ | (apply Or.inr; simp only [go_sem])) ?_; (repeat (first | simp (maxSteps := 2000000) (disch := omega) only [go_sem, ↓reduceIte] | with_reducible refine vIf_t ?_ | with_reducible refine vIf_f ?_)))
        (refine retK_of ?_; (repeat (first | simp (maxSteps := 2000000) (disch := omega) only [go_sem, ↓reduceIte] | with_reducible refine vIf_t ?_ | with_reducible refine vIf_f ?_)))
        try rfl
      | true =>
        rw [finG_y hq]
        rw [hq] at hv
        (refine vCallX_of ?_; (repeat (first | simp (maxSteps := 2000000) (disch := omega) only [go_sem, ↓reduceIte] | with_reducible refine vIf_t ?_ | with_reducible refine vIf_f ?_)); refine vCall_eq (hv) (by simp (disch := omega) only [go_sem]) rfl (by first | exact Or.inl rfl | exact Or.inr ⟨rfl, rfl⟩ | (apply Or.inr; simp only [go_sem])) ?_; (repeat (first | simp (maxSteps := 2000000) (disch := omega) only [go_sem, ↓reduceIte] | with_reducible refine vIf_t ?_ | with_reducible refine vIf_f ?_)))
        (refine retK_of ?_; (repeat (first | simp (maxSteps := 2000000) (disch := omega) only [go_sem, ↓reduceIte] | with_reducible refine vIf_t ?_ | with_reducible refine vIf_f ?_)))
    | true =>
      by_cases hio : i ≤ o
      · have d1 : decide (i ≤ o) = true := decide_eq_true hio
        have d2 : decide (o < i) = false := decide_eq_false (by omega)
        have e : (if (0 : Int) = 1 ∧ i ≤ o then (zG, 10) else finG ⟨(decide ((0 : Int) = 1) || (decide ((0 : Int) = 0) && (true && decide (o < i)))), if (decide ((0 : Int) = 1) || (decide ((0 : Int) = 0) && (true && decide (o < i)))) = true then ps + z else ps, if (decide ((0 : Int) = 1) || (decide ((0 : Int) = 0) && (true && decide (o < i)))) = true then mv else mv + 1⟩) = finG ⟨false, ps, mv + 1⟩ := by simp [d2]
        rw [e]
        (repeat (first | simp (maxSteps := 2000000) (disch := omega) only [go_sem, ↓reduceIte] | with_reducible refine vIf_t ?_ | with_reducible refine vIf_f ?_))
        (try (repeat (first | simp (maxSteps := 2000000) (disch := omega) only [go_sem, ↓reduceIte, d1, d2] | with_reducible refine vIf_t ?_ | with_reducible refine vIf_f ?_)))
        have hv := hv ⟨false, ps, mv + 1⟩
        cases hq : okG9 ⟨false, ps, mv + 1⟩ with
        | false =>
          rw [finG_n hq]
          rw [hq] at hv
          (refine vCallX_of ?_; (repeat (first | simp (maxSteps := 2000000) (disch := omega) only [go_sem, ↓reduceIte] | with_reducible refine vIf_t ?_ | with_reducible refine vIf_f ?_)); refine vCall_eq (hv) (by simp (disch := omega) only [go_sem]) rfl (by first | exact Or.inl rfl | exact Or.inr ⟨rfl, rfl⟩ | (apply Or.inr; simp only [go_sem])) ?_; (repeat (first | simp (maxSteps := 2000000) (disch := omega) only [go_sem, ↓reduceIte] | with_reducible refine vIf_t ?_ | with_reducible refine vIf_f ?_)))
          (refine retK_of ?_; (repeat (first | simp (maxSteps := 2000000) (disch := omega) only [go_sem, ↓reduceIte] | with_reducible refine vIf_t ?_ | with_reducible refine vIf_f ?_)))
          try rfl
        | true =>
          rw [finG_y hq]
          rw [hq] at hv
          (refine vCallX_of ?_; (repeat (first | simp (maxSteps := 2000000) (disch := omega) only [go_sem, ↓reduceIte] | with_reducible refine vIf_t ?_ | with_reducible refine vIf_f ?_)); refine vCall_eq (hv) (by simp (disch := omega) only [go_sem]) rfl (by first | exact Or.inl rfl | exact Or.inr ⟨rfl, rfl⟩ | (apply Or.inr; simp only [go_sem])) ?_; (repeat (first | simp (maxSteps := 2000000) (disch := omega) only [go_sem, ↓reduceIte] | with_reducible refine vIf_t ?_ | with_reducible refine vIf_f ?_)))
          (refine retK_of ?_; (repeat (first | simp (maxSteps := 2000000) (disch := omega) only [go_sem, ↓reduceIte] | with_reducible refine vIf_t ?_ | with_reducible refine vIf_f ?_)))
      · have d1 : decide (i ≤ o) = false := decide_eq_false hio
        have d2 : decide (o < i) = true := decide_eq_true (by omega)
        have e : (if (0 : Int) = 1 ∧ i ≤ o then (zG, 10) else finG ⟨(decide ((0 : Int) = 1) || (decide ((0 : Int) = 0) && (true && decide (o < i)))), if (decide ((0 : Int) = 1) || (decide ((0 : Int) = 0) && (true && decide (o < i)))) = true then ps + z else ps, if (decide ((0 : Int) = 1) || (decide ((0 : Int) = 0) && (true && decide (o < i)))) = true then mv else mv + 1⟩) = finG ⟨true, ps + z, mv⟩ := by simp [d2]
        rw [e]
        (repeat (first | simp (maxSteps := 2000000) (disch := omega) only [go_sem, ↓reduceIte] | with_reducible refine vIf_t ?_ | with_reducible refine vIf_f ?_))
        (try (repeat (first | simp (maxSteps := 2000000) (disch := omega) only [go_sem, ↓reduceIte, d1, d2] | with_reducible refine vIf_t ?_ | with_reducible refine vIf_f ?_)))
        (refine vDraw_sch 6 [(0, false), (3, false), (4, false), (1, false), (2, true), (5, false)] mixed (by kernel_rfl) ?_; simp only [List.cons_append, List.nil_append, List.map_cons, List.map_nil, nthO_zero, nthO_succ, List.drop_succ_cons, List.drop_zero, List.drop_nil]; (repeat (first | simp (maxSteps := 2000000) (disch := omega) only [go_sem, ↓reduceIte] | with_reducible refine vIf_t ?_ | with_reducible refine vIf_f ?_)))
        (refine vsCallX_of ?_; (try (repeat (first | simp (maxSteps := 2000000) (disch := omega) only [go_sem, ↓reduceIte] | with_reducible refine vIf_t ?_ | with_reducible refine vIf_f ?_))); refine vCall_eq (hf) (by simp (disch := omega) only [go_sem]) rfl (by first | exact Or.inl rfl | exact Or.inr ⟨rfl, rfl⟩ | (apply Or.inr; simp only [go_sem])) ?_; (try (repeat (first | simp (maxSteps := 2000000) (disch := omega) only [go_sem, ↓reduceIte] | with_reducible refine vIf_t ?_ | with_reducible refine vIf_f ?_))))
        (try (repeat (first | simp (maxSteps := 2000000) (disch := omega) only [go_sem, ↓reduceIte] | with_reducible refine vIf_t ?_ | with_reducible refine vIf_f ?_)))
        have hv := hv ⟨true, ps + z, mv⟩
        cases hq : okG9 ⟨true, ps + z, mv⟩ with
        | false =>
          rw [finG_n hq]
          rw [hq] at hv
          (refine vCallX_of ?_; (repeat (first | simp (maxSteps := 2000000) (disch := omega) only [go_sem, ↓reduceIte] | with_reducible refine vIf_t ?_ | with_reducible refine vIf_f ?_)); refine vCall_eq (hv) (by simp (disch := omega) only [go_sem]) rfl (by first | exact Or.inl rfl | exact Or.inr ⟨rfl, rfl⟩ | (apply Or.inr; simp only [go_sem])) ?_; (repeat (first | simp (maxSteps := 2000000) (disch := omega) only [go_sem, ↓reduceIte] | with_reducible refine vIf_t ?_ | with_reducible refine vIf_f ?_)))
          (refine retK_of ?_; (repeat (first | simp (maxSteps := 2000000) (disch := omega) only [go_sem, ↓reduceIte] | with_reducible refine vIf_t ?_ | with_reducible refine vIf_f ?_)))
          try rfl
        | true =>
          rw [finG_y hq]
          rw [hq] at hv
          (refine vCallX_of ?_; (repeat (first | simp (maxSteps := 2000000) (disch := omega) only [go_sem, ↓reduceIte] | with_reducible refine vIf_t ?_ | with_reducible refine vIf_f ?_)); refine vCall_eq (hv) (by simp (disch := omega) only [go_sem]) rfl (by first | exact Or.inl rfl | exact Or.inr ⟨rfl, rfl⟩ | (apply Or.inr; simp only [go_sem])) ?_; (repeat (first | simp (maxSteps := 2000000) (disch := omega) only [go_sem, ↓reduceIte] | with_reducible refine vIf_t ?_ | with_reducible refine vIf_f ?_)))
          (refine retK_of ?_; (repeat (first | simp (maxSteps := 2000000) (disch := omega) only [go_sem, ↓reduceIte] | with_reducible refine vIf_t ?_ | with_reducible refine vIf_f ?_)))
  · by_cases hio : i ≤ o
    · have d1 : decide (i ≤ o) = true := decide_eq_true hio
      rw [if_pos ⟨rfl, hio⟩]
      (repeat (first | simp (maxSteps := 2000000) (disch := omega) only [go_sem, ↓reduceIte] | with_reducible refine vIf_t ?_ | with_reducible refine vIf_f ?_))
      (try (repeat (first | simp (maxSteps := 2000000) (disch := omega) only [go_sem, ↓reduceIte, d1] | with_reducible refine vIf_t ?_ | with_reducible refine vIf_f ?_)))
      (refine retK_of ?_; (repeat (first | simp (maxSteps := 2000000) (disch := omega) only [go_sem, ↓reduceIte] | with_reducible refine vIf_t ?_ | with_reducible refine vIf_f ?_)))
      try rfl
    · have d1 : decide (i ≤ o) = false := decide_eq_false hio
      cases op with
      | false =>
        have e : (if (1 : Int) = 1 ∧ i ≤ o then (zG, 10) else finG ⟨(decide ((1 : Int) = 1) || (decide ((1 : Int) = 0) && (false && decide (o < i)))), if (decide ((1 : Int) = 1) || (decide ((1 : Int) = 0) && (false && decide (o < i)))) = true then ps + z else ps, if (decide ((1 : Int) = 1) || (decide ((1 : Int) = 0) && (false && decide (o < i)))) = false then mv else mv + 1⟩) = finG ⟨true, ps + z, mv + 1⟩ := by simp [hio]
        rw [e]
        (repeat (first | simp (maxSteps := 2000000) (disch := omega) only [go_sem, ↓reduceIte] | with_reducible refine vIf_t ?_ | with_reducible refine vIf_f ?_))
        (try (repeat (first | simp (maxSteps := 2000000) (disch := omega) only [go_sem, ↓reduceIte, d1] | with_reducible refine vIf_t ?_ | with_reducible refine vIf_f ?_)))
        (refine vDraw_sch 6 [(0, false), (3, false), (4, false), (1, false), (2, true), (5, false)] mixed (by kernel_rfl) ?_; simp only [List.cons_append, List.nil_append, List.map_cons, List.map_nil, nthO_zero, nthO_succ, List.drop_succ_cons, List.drop_zero, List.drop_nil]; (repeat (first | simp (maxSteps := 2000000) (disch := omega) only [go_sem, ↓reduceIte] | with_reducible refine vIf_t ?_ | with_reducible refine vIf_f ?_)))
        (refine vsCallX_of ?_; (try (repeat (first | simp (maxSteps := 2000000) (disch := omega) only [go_sem, ↓reduceIte] | with_reducible refine vIf_t ?_ | with_reducible refine vIf_f ?_))); refine vCall_eq (hf) (by simp (disch := omega) only [go_sem]) rfl (by first | exact Or.inl rfl | exact Or.inr ⟨rfl, rfl⟩ | (apply Or.inr; simp only [go_sem])) ?_; (try (repeat (first | simp (maxSteps := 2000000) (disch := omega) only [go_sem, ↓reduceIte] | with_reducible refine vIf_t ?_ | with_reducible refine vIf_f ?_))))
        (try (repeat (first | simp (maxSteps := 2000000) (disch := omega) only [go_sem, ↓reduceIte] | with_reducible refine vIf_t ?_ | with_reducible refine vIf_f ?_)))
        have hv := hv ⟨true, ps + z, mv + 1⟩
        cases hq : okG9 ⟨true, ps + z, mv + 1⟩ with
        | false =>
          rw [finG_n hq]
          rw [hq] at hv
          (refine vCallX_of ?_; (repeat (first | simp (maxSteps := 2000000) (disch := omega) only [go_sem, ↓reduceIte] | with_reducible refine vIf_t ?_ | with_reducible refine vIf_f ?_)); refine vCall_eq (hv) (by simp (disch := omega) only [go_sem]) rfl (by first | exact Or.inl rfl | exact Or.inr ⟨rfl, rfl⟩ | (apply Or.inr; simp only [go_sem])) ?_; (repeat (first | simp (maxSteps := 2000000) (disch := omega) only [go_sem, ↓reduceIte] | with_reducible refine vIf_t ?_ | with_reducible refine vIf_f ?_)))
          (refine retK_of ?_; (repeat (first | simp (maxSteps := 2000000) (disch := omega) only [go_sem, ↓reduceIte] | with_reducible refine vIf_t ?_ | with_reducible refine vIf_f ?_)))
          try rfl
        | true =>
          rw [finG_y hq]
          rw [hq] at hv
          (refine vCallX_of ?_; (repeat (first | simp (maxSteps := 2000000) (disch := omega) only [go_sem, ↓reduceIte] | with_reducible refine vIf_t ?_ | with_reducible refine vIf_f ?_)); refine vCall_eq (hv) (by simp (disch := omega) only [go_sem]) rfl (by first | exact Or.inl rfl | exact Or.inr ⟨rfl, rfl⟩ | (apply Or.inr; simp only [go_sem])) ?_; (repeat (first | simp (maxSteps := 2000000) (disch := omega) only [go_sem, ↓reduceIte] | with_reducible refine vIf_t ?_ | with_reducible refine vIf_f ?_)))
          (refine retK_of ?_; (repeat (first | simp (maxSteps := 2000000) (disch := omega) only [go_sem, ↓reduceIte] | with_reducible refine vIf_t ?_ | with_reducible refine vIf_f ?_)))
      | true =>
        have e : (if (1 : Int) = 1 ∧ i ≤ o then (zG, 10) else finG ⟨(decide ((1 : Int) = 1) || (decide ((1 : Int) = 0) && (true && decide (o < i)))), if (decide ((1 : Int) = 1) || (decide ((1 : Int) = 0) && (true && decide (o < i)))) = true then ps + z else ps, if (decide ((1 : Int) = 1) || (decide ((1 : Int) = 0) && (true && decide (o < i)))) = true then mv else mv + 1⟩) = finG ⟨true, ps + z, mv⟩ := by simp [hio]
        rw [e]
        (repeat (first | simp (maxSteps := 2000000) (disch := omega) only [go_sem, ↓reduceIte] | with_reducible refine vIf_t ?_ | with_reducible refine vIf_f ?_))
        (try (repeat (first | simp (maxSteps := 2000000) (disch := omega) only [go_sem, ↓reduceIte, d1] | with_reducible refine vIf_t ?_ | with_reducible refine vIf_f ?_)))
        (refine vDraw_sch 6 [(0, false), (3, false), (4, false), (1, false), (2, true), (5, false)] mixed (by kernel_rfl) ?_; simp only [List.cons_append, List.nil_append, List.map_cons, List.map_nil, nthO_zero, nthO_succ, List.drop_succ_cons, List.drop_zero, List.drop_nil]; (repeat (first | simp (maxSteps := 2000000) (disch := omega) only [go_sem, ↓reduceIte] | with_reducible refine vIf_t ?_ | with_reducible refine vIf_f ?_)))
        (refine vsCallX_of ?_; (try (repeat (first | simp (maxSteps := 2000000) (disch := omega) only [go_sem, ↓reduceIte] | with_reducible refine vIf_t ?_ | with_reducible refine vIf_f ?_))); refine vCall_eq (hf) (by simp (disch := omega) only [go_sem]) rfl (by first | exact Or.inl rfl | exact Or.inr ⟨rfl, rfl⟩ | (apply Or.inr; simp only [go_sem])) ?_; (try (repeat (first | simp (maxSteps := 2000000) (disch := omega) only [go_sem, ↓reduceIte] | with_reducible refine vIf_t ?_ | with_reducible refine vIf_f ?_))))
        (try (repeat (first | simp (maxSteps := 2000000) (disch := omega) only [go_sem, ↓reduceIte] | with_reducible refine vIf_t ?_ | with_reducible refine vIf_f ?_)))
        have hv := hv ⟨true, ps + z, mv⟩
        cases hq : okG9 ⟨true, ps + z, mv⟩ with
        | false =>
          rw [finG_n hq]
          rw [hq] at hv
          (refine vCallX_of ?_; (repeat (first | simp (maxSteps := 2000000) (disch := omega) only [go_sem, ↓reduceIte] | with_reducible refine vIf_t ?_ | with_reducible refine vIf_f ?_)); refine vCall_eq (hv) (by simp (disch := omega) only [go_sem]) rfl (by first | exact Or.inl rfl | exact Or.inr ⟨rfl, rfl⟩ | (apply Or.inr; simp only [go_sem])) ?_; (repeat (first | simp (maxSteps := 2000000) (disch := omega) only [go_sem, ↓reduceIte] | with_reducible refine vIf_t ?_ | with_reducible refine vIf_f ?_)))
          (refine retK_of ?_; (repeat (first | simp (maxSteps := 2000000) (disch := omega) only [go_sem, ↓reduceIte] | with_reducible refine vIf_t ?_ | with_reducible refine vIf_f ?_)))
          try rfl
        | true =>
          rw [finG_y hq]
          rw [hq] at hv
          (refine vCallX_of ?_; (repeat (first | simp (maxSteps := 2000000) (disch := omega) only [go_sem, ↓reduceIte] | with_reducible refine vIf_t ?_ | with_reducible refine vIf_f ?_)); refine vCall_eq (hv) (by simp (disch := omega) only [go_sem]) rfl (by first | exact Or.inl rfl | exact Or.inr ⟨rfl, rfl⟩ | (apply Or.inr; simp only [go_sem])) ?_; (repeat (first | simp (maxSteps := 2000000) (disch := omega) only [go_sem, ↓reduceIte] | with_reducible refine vIf_t ?_ | with_reducible refine vIf_f ?_)))
          (refine retK_of ?_; (repeat (first | simp (maxSteps := 2000000) (disch := omega) only [go_sem, ↓reduceIte] | with_reducible refine vIf_t ?_ | with_reducible refine vIf_f ?_)))
  · cases op with
    | false =>
      have e : (if (2 : Int) = 1 ∧ i ≤ o then (zG, 10) else finG ⟨(decide ((2 : Int) = 1) || (decide ((2 : Int) = 0) && (false && decide (o < i)))), if (decide ((2 : Int) = 1) || (decide ((2 : Int) = 0) && (false && decide (o < i)))) = true then ps + z else ps, if (decide ((2 : Int) = 1) || (decide ((2 : Int) = 0) && (false && decide (o < i)))) = false then mv else mv + 1⟩) = finG ⟨false, ps, mv⟩ := by simp
      rw [e]
      (repeat (first | simp (maxSteps := 2000000) (disch := omega) only [go_sem, ↓reduceIte] | with_reducible refine vIf_t ?_ | with_reducible refine vIf_f ?_))
      have hv := hv ⟨false, ps, mv⟩
      cases hq : okG9 ⟨false, ps, mv⟩ with
      | false =>
        rw [finG_n hq]
        rw [hq] at hv
        (refine vCallX_of ?_; (repeat (first | simp (maxSteps := 2000000) (disch := omega) only [go_sem, ↓reduceIte] | with_reducible refine vIf_t ?_ | with_reducible refine vIf_f ?_)); refine vCall_eq (hv) (by simp (disch := omega) only [go_sem]) rfl (by first | exact Or.inl rfl | exact Or.inr ⟨rfl, rfl⟩ | (apply Or.inr; simp only [go_sem])) ?_; (repeat (first | simp (maxSteps := 2000000) (disch := omega) only [go_sem, ↓reduceIte] | with_reducible refine vIf_t ?_ | with_reducible refine vIf_f ?_)))
        (refine retK_of ?_; (repeat (first | simp (maxSteps := 2000000) (disch := omega) only [go_sem, ↓reduceIte] | with_reducible refine vIf_t ?_ | with_reducible refine vIf_f ?_)))
        try rfl
      | true =>
        rw [finG_y hq]
        rw [hq] at hv
        (refine vCallX_of ?_; (repeat (first | simp (maxSteps := 2000000) (disch := omega) only [go_sem, ↓reduceIte] | with_reducible refine vIf_t ?_ | with_reducible refine vIf_f ?_)); refine vCall_eq (hv) (by simp (disch := omega) only [go_sem]) rfl (by first | exact Or.inl rfl | exact Or.inr ⟨rfl, rfl⟩ | (apply Or.inr; simp only [go_sem])) ?_; (repeat (first | simp (maxSteps := 2000000) (disch := omega) only [go_sem, ↓reduceIte] | with_reducible refine vIf_t ?_ | with_reducible refine vIf_f ?_)))
        (refine retK_of ?_; (repeat (first | simp (maxSteps := 2000000) (disch := omega) only [go_sem, ↓reduceIte] | with_reducible refine vIf_t ?_ | with_reducible refine vIf_f ?_)))
    | true =>
      have e : (if (2 : Int) = 1 ∧ i ≤ o then (zG, 10) else finG ⟨(decide ((2 : Int) = 1) || (decide ((2 : Int) = 0) && (true && decide (o < i)))), if (decide ((2 : Int) = 1) || (decide ((2 : Int) = 0) && (true && decide (o < i)))) = true then ps + z else ps, if (decide ((2 : Int) = 1) || (decide ((2 : Int) = 0) && (true && decide (o < i)))) = true then mv else mv + 1⟩) = finG ⟨false, ps, mv + 1⟩ := by simp
      rw [e]
      (repeat (first | simp (maxSteps := 2000000) (disch := omega) only [go_sem, ↓reduceIte] | with_reducible refine vIf_t ?_ | with_reducible refine vIf_f ?_))
      have hv := hv ⟨false, ps, mv + 1⟩
      cases hq : okG9 ⟨false, ps, mv + 1⟩ with
      | false =>
        rw [finG_n hq]
        rw [hq] at hv
        (refine vCallX_of ?_; (repeat (first | simp (maxSteps := 2000000) (disch := omega) only [go_sem, ↓reduceIte] | with_reducible refine vIf_t ?_ | with_reducible refine vIf_f ?_)); refine vCall_eq (hv) (by simp (disch := omega) only [go_sem]) rfl (by first | exact Or.inl rfl | exact Or.inr ⟨rfl, rfl⟩ | (apply Or.inr; simp only [go_sem])) ?_; (repeat (first | simp (maxSteps := 2000000) (disch := omega) only [go_sem, ↓reduceIte] | with_reducible refine vIf_t ?_ | with_reducible refine vIf_f ?_)))
        (refine retK_of ?_; (repeat (first | simp (maxSteps := 2000000) (disch := omega) only [go_sem, ↓reduceIte] | with_reducible refine vIf_t ?_ | with_reducible refine vIf_f ?_)))
        try rfl
      | true =>
        rw [finG_y hq]
        rw [hq] at hv
        (refine vCallX_of ?_; (repeat (first | simp (maxSteps := 2000000) (disch := omega) only [go_sem, ↓reduceIte] | with_reducible refine vIf_t ?_ | with_reducible refine vIf_f ?_)); refine vCall_eq (hv) (by simp (disch := omega) only [go_sem]) rfl (by first | exact Or.inl rfl | exact Or.inr ⟨rfl, rfl⟩ | (apply Or.inr; simp only [go_sem])) ?_; (repeat (first | simp (maxSteps := 2000000) (disch := omega) only [go_sem, ↓reduceIte] | with_reducible refine vIf_t ?_ | with_reducible refine vIf_f ?_)))
        (refine retK_of ?_; (repeat (first | simp (maxSteps := 2000000) (disch := omega) only [go_sem, ↓reduceIte] | with_reducible refine vIf_t ?_ | with_reducible refine vIf_f ?_)))
end Go.Proofs.YtpjjjonplikilaaGreat
namespace Go.Proofs.YtpjjjonplikilaaGreat
open Go.AG

/-- the first place at which something is so; -1 if there is none -/
def fsI {α : Type} (q : α → Bool) (xs : List α) : Int := match xs.findIdx? q with
  | some i => i
  | none => -1
theorem fsI_yes {α : Type} {q : α → Bool} {xs : List α} (k : Nat) (hk : k < xs.length) (hq : q xs[k] = true) (hn : ∀ j (h : j < k), q (xs[j]'(by omega)) = false) : fsI q xs = k := by
  have : xs.findIdx? q = some k := by
    rw [List.findIdx?_eq_some_iff_getElem]
    exact ⟨hk, hq, fun j hj => by simpa using hn j hj⟩
  simp [fsI, this]
theorem fsI_no {α : Type} {q : α → Bool} {xs : List α} (hn : ∀ j (h : j < xs.length), q xs[j] = false) : fsI q xs = -1 := by
  have : xs.findIdx? q = none := by
    rw [List.findIdx?_eq_none_iff]
    intro x hx
    obtain ⟨j, hj, rfl⟩ := List.mem_iff_getElem.1 hx
    exact hn j hj
  simp [fsI, this]
theorem sumI_set (xs : List Int) (i : Nat) (v : Int) (h : i < xs.length) : sumI (xs.set i v) = sumI xs - gi xs i + v := by
  induction xs generalizing i with
  | nil => simp at h
  | cons x xs ih =>
    cases i with
    | zero => simp only [List.set_cons_zero, sumI_cons]; show v + sumI xs = x + sumI xs - x + v; omega
    | succ i =>
      simp only [List.set_cons_succ, sumI_cons, ih i (by simpa using h)]
      show _ = x + sumI xs - gi xs i + v
      omega
theorem sumI_rep0 (n : Nat) : sumI (List.replicate n 0) = 0 := by
  induction n with
  | zero => rfl
  | succ n ih => rw [List.replicate_succ, sumI_cons, ih]; rfl
theorem gi_rep0 (n i : Nat) : gi (List.replicate n 0) i = 0 := by
  unfold gi
  rw [List.getD_eq_getElem?_getD, List.getElem?_replicate]
  split <;> rfl
theorem sumI_map_bd {α : Type} (f : α → Int) (b : Int) (hb : 0 ≤ b) (xs : List α) (h : ∀ x ∈ xs, 0 ≤ f x ∧ f x ≤ b) : 0 ≤ sumI (xs.map f) ∧ sumI (xs.map f) ≤ b * xs.length := by
  induction xs with
  | nil => simp [sumI_nil]
  | cons x xs ih =>
    have h1 := h x (by simp)
    have h2 := ih fun y hy => h y (by simp [hy])
    simp only [List.map_cons, sumI_cons, List.length_cons, Int.natCast_add, Int.mul_add]
    omega

/-- amounts added up by places -/
def acc {α : Type} (key val : α → Int) (n : Nat) (ds : List α) : List Int := ds.foldl (fun a p => a.set (key p).toNat (IntKind.wrap .i64 (gi a (key p).toNat + val p))) (List.replicate n 0)
theorem acc_nil {α : Type} (key val : α → Int) (n : Nat) : acc key val n [] = List.replicate n 0 := rfl
theorem acc_snoc {α : Type} (key val : α → Int) (n : Nat) (ds : List α) (p : α) : acc key val n (ds ++ [p]) = (acc key val n ds).set (key p).toNat (IntKind.wrap .i64 (gi (acc key val n ds) (key p).toNat + val p)) := by simp [acc]
theorem acc_len {α : Type} (key val : α → Int) (n : Nat) (ds : List α) : (acc key val n ds).length = n := by
  refine snoc_ind (M := fun ds => (acc key val n ds).length = n) ?_ ?_ ds
  · simp [acc]
  · intro xs x ih; rw [acc_snoc, List.length_set, ih]
theorem acc_val {α : Type} (key val : α → Int) (n : Nat) (b : Int) (hb : 0 ≤ b) (ds : List α) (hk : ∀ p ∈ ds, 0 ≤ key p ∧ key p < n) (hv : ∀ p ∈ ds, 0 ≤ val p ∧ val p ≤ b) (hl : b * ds.length ≤ 4611686018427387904) :
    (∀ j : Nat, j < n → gi (acc key val n ds) j = sumI ((ds.filter fun p => decide (key p = j)).map val)) ∧ sumI (acc key val n ds) = sumI (ds.map val) := by
  revert hk hv hl
  refine snoc_ind (M := fun ds => (∀ p ∈ ds, 0 ≤ key p ∧ key p < n) → (∀ p ∈ ds, 0 ≤ val p ∧ val p ≤ b) → b * ds.length ≤ 4611686018427387904 →
    (∀ j : Nat, j < n → gi (acc key val n ds) j = sumI ((ds.filter fun p => decide (key p = j)).map val)) ∧ sumI (acc key val n ds) = sumI (ds.map val)) ?_ ?_ ds
  · intro _ _ _
    exact ⟨fun j _ => by rw [acc_nil, gi_rep0]; rfl, by rw [acc_nil, sumI_rep0]; rfl⟩
  · intro ds p ih hk hv hl
    have hp1 := hk p (by simp)
    have hp2 := hv p (by simp)
    have hl2 : b * (ds.length : Int) + b ≤ 4611686018427387904 := by
      rw [List.length_append, List.length_singleton, Int.natCast_add, Int.mul_add] at hl
      have : b * ((1 : Nat) : Int) = b := by simp
      omega
    obtain ⟨i1, i2⟩ := ih (fun q hq => hk q (by simp [hq])) (fun q hq => hv q (by simp [hq])) (by omega)
    have hkn : (key p).toNat < n := by omega
    have e1 := i1 _ hkn
    have hbd := sumI_map_bd val b hb (ds.filter fun q => decide (key q = ((key p).toNat : Int))) (fun x hx => hv x (by rw [List.mem_filter] at hx; simp [hx.1]))
    have hfl : b * ((ds.filter fun q => decide (key q = ((key p).toNat : Int))).length : Int) ≤ b * (ds.length : Int) := Int.mul_le_mul_of_nonneg_left (by exact_mod_cast List.length_filter_le _ _) hb
    have hw : IntKind.wrap .i64 (gi (acc key val n ds) (key p).toNat + val p) = gi (acc key val n ds) (key p).toNat + val p := wrap_i64_id _ (by omega)
    constructor
    · intro j hj
      rw [acc_snoc, hw, List.filter_append, List.map_append, sumI_append]
      by_cases e : (key p).toNat = j
      · subst e
        rw [gi_set_same _ _ _ (by rw [acc_len]; exact hkn), e1]
        have : decide (key p = ((key p).toNat : Int)) = true := decide_eq_true (by omega)
        rw [List.filter_cons, if_pos this]; simp [sumI_cons, sumI_nil]
      · rw [gi_set_ne _ _ _ _ e, i1 j hj]
        have : decide (key p = (j : Int)) = false := decide_eq_false (by omega)
        simp [this, sumI_nil]
    · rw [acc_snoc, hw, sumI_set _ _ _ (by rw [acc_len]; exact hkn), i2, List.map_append, sumI_append]
      simp only [List.map_cons, List.map_nil, sumI_cons, sumI_nil]
      omega

end Go.Proofs.YtpjjjonplikilaaGreat
namespace Go.Proofs.YtpjjjonplikilaaGreat
open Go.AG

attribute [local go_sem] beq_self_eq_true bne_self_eq_false Bool.not_true Bool.not_false
def sdB (a b : List Int) : Bool := decide (a.length ≤ 200) && (decide (a.length = b.length) && (a.all lvB && b.all lvB))
def gfQ (op : List Bool) (a b : List Int) (j : Nat) : Bool := gb op j && decide (gi a j ≤ gi b j)
def gfR (op : List Bool) (a b : List Int) : Int × Int := if (sdB a b && decide (op.length = a.length)) = true then (fsI (gfQ op a b) (List.range op.length), 0) else (0, 2)
theorem fsR_yes {q : Nat → Bool} {n : Nat} (k : Nat) (hk : k < n) (hq : q k = true) (hn : ∀ j, j < k → q j = false) : fsI q (List.range n) = k :=
  fsI_yes k (by simpa using hk) (by simpa using hq) fun j hj => by simpa using hn j hj
theorem fsR_no {q : Nat → Bool} {n : Nat} (hn : ∀ j, j < n → q j = false) : fsI q (List.range n) = -1 :=
  fsI_no fun j hj => by simpa using hn j (by simpa using hj)
theorem areSides_ok (a b : List Int) (ha : a.length ≤ 10000000) (hb : b.length ≤ 10000000) : ACalls Tryz.prog 40 [.sl a.length (ints a), .sl b.length (ints b)] [] (fun r o => r = B (sdB a b) ∧ o = []) := by
  refine ACalls.of_vc Tryz.func40 rfl (by decide) 23 rfl [.tmp 4] rfl (by simp) ?_
  have h1 := lvs_ok a ha
  have h2 := lvs_ok b hb
  have e : (fun x => decide (-2000 ≤ x ∧ x ≤ 2000)) = lvB := rfl
  unfold iS at h1 h2
  rw [e] at h1 h2
  unfold sdB
  by_cases c1 : a.length ≤ 200
  case neg =>
    have d1 : decide ((a.length : Int) ≤ 200) = false := decide_eq_false (by omega)
    rw [decide_eq_false c1]
    (repeat (first | simp (maxSteps := 2000000) (disch := omega) only [go_sem, ↓reduceIte, d1] | with_reducible refine vIf_t ?_ | with_reducible refine vIf_f ?_))
    (try (repeat (first | simp (maxSteps := 2000000) (disch := omega) only [go_sem, ↓reduceIte, d1] | with_reducible refine vIf_t ?_ | with_reducible refine vIf_f ?_)))
    (refine retK_of ?_; (repeat (first | simp (maxSteps := 2000000) (disch := omega) only [go_sem, ↓reduceIte] | with_reducible refine vIf_t ?_ | with_reducible refine vIf_f ?_)))
    try rfl
  have d1 : decide ((a.length : Int) ≤ 200) = true := decide_eq_true (by omega)
  rw [decide_eq_true c1]
  by_cases c2 : a.length = b.length
  case neg =>
    have d2 : ((a.length : Int) == (b.length : Int)) = false := by simp; omega
    rw [decide_eq_false c2]
    (repeat (first | simp (maxSteps := 2000000) (disch := omega) only [go_sem, ↓reduceIte, d1, d2] | with_reducible refine vIf_t ?_ | with_reducible refine vIf_f ?_))
    (try (repeat (first | simp (maxSteps := 2000000) (disch := omega) only [go_sem, ↓reduceIte, d1, d2] | with_reducible refine vIf_t ?_ | with_reducible refine vIf_f ?_)))
    (refine retK_of ?_; (repeat (first | simp (maxSteps := 2000000) (disch := omega) only [go_sem, ↓reduceIte] | with_reducible refine vIf_t ?_ | with_reducible refine vIf_f ?_)))
    try rfl
  have d2 : ((a.length : Int) == (b.length : Int)) = true := by simp; omega
  rw [decide_eq_true c2]
  generalize a.all lvB = b1 at *
  generalize b.all lvB = b2 at *
  (repeat (first | simp (maxSteps := 2000000) (disch := omega) only [go_sem, ↓reduceIte, d1, d2] | with_reducible refine vIf_t ?_ | with_reducible refine vIf_f ?_))
  (try (repeat (first | simp (maxSteps := 2000000) (disch := omega) only [go_sem, ↓reduceIte, d1, d2] | with_reducible refine vIf_t ?_ | with_reducible refine vIf_f ?_)))
  (refine vCallX_of ?_; (repeat (first | simp (maxSteps := 2000000) (disch := omega) only [go_sem, ↓reduceIte] | with_reducible refine vIf_t ?_ | with_reducible refine vIf_f ?_)); refine vCall_eq (h1) (by simp (disch := omega) only [go_sem]) rfl (by first | exact Or.inl rfl | exact Or.inr ⟨rfl, rfl⟩ | (apply Or.inr; simp only [go_sem])) ?_; (repeat (first | simp (maxSteps := 2000000) (disch := omega) only [go_sem, ↓reduceIte] | with_reducible refine vIf_t ?_ | with_reducible refine vIf_f ?_)))
  cases b1 with
  | false =>
    (repeat (first | simp (maxSteps := 2000000) (disch := omega) only [go_sem, ↓reduceIte] | with_reducible refine vIf_t ?_ | with_reducible refine vIf_f ?_))
    (refine retK_of ?_; (repeat (first | simp (maxSteps := 2000000) (disch := omega) only [go_sem, ↓reduceIte] | with_reducible refine vIf_t ?_ | with_reducible refine vIf_f ?_)))
    try rfl
  | true =>
    (repeat (first | simp (maxSteps := 2000000) (disch := omega) only [go_sem, ↓reduceIte] | with_reducible refine vIf_t ?_ | with_reducible refine vIf_f ?_))
    (refine vCallX_of ?_; (repeat (first | simp (maxSteps := 2000000) (disch := omega) only [go_sem, ↓reduceIte] | with_reducible refine vIf_t ?_ | with_reducible refine vIf_f ?_)); refine vCall_eq (h2) (by simp (disch := omega) only [go_sem]) rfl (by first | exact Or.inl rfl | exact Or.inr ⟨rfl, rfl⟩ | (apply Or.inr; simp only [go_sem])) ?_; (repeat (first | simp (maxSteps := 2000000) (disch := omega) only [go_sem, ↓reduceIte] | with_reducible refine vIf_t ?_ | with_reducible refine vIf_f ?_)))
    (refine retK_of ?_; (repeat (first | simp (maxSteps := 2000000) (disch := omega) only [go_sem, ↓reduceIte] | with_reducible refine vIf_t ?_ | with_reducible refine vIf_f ?_)))
    try rfl
theorem l09Levels_ok (a b : List Int) (ha : a.length ≤ 10000000) (hb : b.length ≤ 10000000) : ACalls Tryz.prog 103 [.sl a.length (ints a), .sl b.length (ints b)] [] (fun r o => r = I (if sdB a b = true then 0 else 2) ∧ o = []) := by
  refine ACalls.of_vc Tryz.func103 rfl (by decide) 36 rfl [.tmp 4] rfl (by simp) ?_
  by_cases c2 : a.length = b.length
  case neg =>
    have d2 : ((a.length : Int) != (b.length : Int)) = true := by simp; omega
    have e : sdB a b = false := by simp [sdB, c2]
    rw [e]
    (repeat (first | simp (maxSteps := 2000000) (disch := omega) only [go_sem, ↓reduceIte, d2] | with_reducible refine vIf_t ?_ | with_reducible refine vIf_f ?_))
    (try (repeat (first | simp (maxSteps := 2000000) (disch := omega) only [go_sem, ↓reduceIte, d2] | with_reducible refine vIf_t ?_ | with_reducible refine vIf_f ?_)))
    (refine retK_of ?_; (repeat (first | simp (maxSteps := 2000000) (disch := omega) only [go_sem, ↓reduceIte] | with_reducible refine vIf_t ?_ | with_reducible refine vIf_f ?_)))
    try rfl
  have d2 : ((a.length : Int) != (b.length : Int)) = false := by simp; omega
  by_cases c1 : a.length ≤ 200
  case neg =>
    have d1 : decide (200 < (a.length : Int)) = true := decide_eq_true (by omega)
    have e : sdB a b = false := by simp [sdB, c1]
    rw [e]
    (repeat (first | simp (maxSteps := 2000000) (disch := omega) only [go_sem, ↓reduceIte, d1, d2] | with_reducible refine vIf_t ?_ | with_reducible refine vIf_f ?_))
    (try (repeat (first | simp (maxSteps := 2000000) (disch := omega) only [go_sem, ↓reduceIte, d1, d2] | with_reducible refine vIf_t ?_ | with_reducible refine vIf_f ?_)))
    (refine retK_of ?_; (repeat (first | simp (maxSteps := 2000000) (disch := omega) only [go_sem, ↓reduceIte] | with_reducible refine vIf_t ?_ | with_reducible refine vIf_f ?_)))
    try rfl
  have d1 : decide (200 < (a.length : Int)) = false := decide_eq_false (by omega)
  have hall : (∀ j, j < a.length → lvB (gi a j) = true ∧ lvB (gi b j) = true) → sdB a b = true := by
    intro h
    unfold sdB
    rw [decide_eq_true c1, decide_eq_true c2, Bool.true_and, Bool.true_and, Bool.and_eq_true, List.all_eq_true, List.all_eq_true]
    refine ⟨fun x hx => ?_, fun x hx => ?_⟩
    · obtain ⟨j, hj, rfl⟩ := List.mem_iff_getElem.1 hx
      rw [← gi_lt _ _ hj]; exact (h j hj).1
    · obtain ⟨j, hj, rfl⟩ := List.mem_iff_getElem.1 hx
      rw [← gi_lt _ _ hj]; exact (h j (by omega)).2
  have hany : ∀ j, j < a.length → (lvB (gi a j) = false ∨ lvB (gi b j) = false) → sdB a b = false := by
    intro j hj h
    cases hs : sdB a b with
    | false => rfl
    | true =>
      exfalso
      unfold sdB at hs
      simp only [Bool.and_eq_true, List.all_eq_true] at hs
      have q1 := hs.2.2.1 _ (gi_mem a j hj)
      have q2 := hs.2.2.2 _ (gi_mem b j (by omega))
      rcases h with h | h
      · rw [h] at q1; cases q1
      · rw [h] at q2; cases q2
  (repeat (first | simp (maxSteps := 2000000) (disch := omega) only [go_sem, ↓reduceIte, d1, d2] | with_reducible refine vIf_t ?_ | with_reducible refine vIf_f ?_))
  (try (repeat (first | simp (maxSteps := 2000000) (disch := omega) only [go_sem, ↓reduceIte, d1, d2] | with_reducible refine vIf_t ?_ | with_reducible refine vIf_f ?_)))
  refine vcLoop_invF (fun k : Nat => k ≤ a.length ∧ ∀ j, j < k → lvB (gi a j) = true ∧ lvB (gi b j) = true) (fun k => ⟨36, 0, [(5, I k), (1, .sl b.length (ints b)), (0, .sl a.length (ints a))], []⟩) (fun k => a.length - k) 0 ⟨by omega, fun j h => by omega⟩ (by (first | (refine leF_s ?_; ((repeat (first | simp (maxSteps := 2000000) (disch := omega) only [go_sem, ↓reduceIte] | with_reducible refine vIf_t ?_ | with_reducible refine vIf_f ?_)); all_goals (try simp); all_goals (try omega)); done) | (refine leF_p ?_; ((repeat (first | simp (maxSteps := 2000000) (disch := omega) only [go_sem, ↓reduceIte] | with_reducible refine vIf_t ?_ | with_reducible refine vIf_f ?_)); all_goals (try simp); all_goals (try omega)); done))) ?_
  rintro k ⟨hk, hj⟩
  (repeat (first | simp (maxSteps := 2000000) (disch := omega) only [go_sem, ↓reduceIte] | with_reducible refine vIf_t ?_ | with_reducible refine vIf_f ?_))
  refine vIf_dec (fun h5 => ?_) (fun h5 => ?_)
  · have hkl : k < a.length := by omega
    have h1 := bLevS_ok (gi a k)
    have h2 := bLevS_ok (gi b k)
    have hy := hany k hkl
    have hj2 : lvB (gi a k) = true → lvB (gi b k) = true → ∀ j, j < k + 1 → lvB (gi a j) = true ∧ lvB (gi b j) = true := by
      intro q1 q2 j hj3
      by_cases e : j = k
      · subst e; exact ⟨q1, q2⟩
      · exact hj j (by omega)
    generalize lvB (gi a k) = b1 at *
    generalize lvB (gi b k) = b2 at *
    (repeat (first | simp (maxSteps := 2000000) (disch := omega) only [go_sem, ↓reduceIte] | with_reducible refine vIf_t ?_ | with_reducible refine vIf_f ?_))
    (refine vCallX_of ?_; (repeat (first | simp (maxSteps := 2000000) (disch := omega) only [go_sem, ↓reduceIte] | with_reducible refine vIf_t ?_ | with_reducible refine vIf_f ?_)); refine vCall_eq (h1) (by simp (disch := omega) only [go_sem]) rfl (by first | exact Or.inl rfl | exact Or.inr ⟨rfl, rfl⟩ | (apply Or.inr; simp only [go_sem])) ?_; (repeat (first | simp (maxSteps := 2000000) (disch := omega) only [go_sem, ↓reduceIte] | with_reducible refine vIf_t ?_ | with_reducible refine vIf_f ?_)))
    cases b1 with
    | false =>
      rw [hy (.inl rfl)]
      (repeat (first | simp (maxSteps := 2000000) (disch := omega) only [go_sem, ↓reduceIte] | with_reducible refine vIf_t ?_ | with_reducible refine vIf_f ?_))
      (refine retK_of ?_; (repeat (first | simp (maxSteps := 2000000) (disch := omega) only [go_sem, ↓reduceIte] | with_reducible refine vIf_t ?_ | with_reducible refine vIf_f ?_)))
      try rfl
    | true =>
      (repeat (first | simp (maxSteps := 2000000) (disch := omega) only [go_sem, ↓reduceIte] | with_reducible refine vIf_t ?_ | with_reducible refine vIf_f ?_))
      (refine vCallX_of ?_; (repeat (first | simp (maxSteps := 2000000) (disch := omega) only [go_sem, ↓reduceIte] | with_reducible refine vIf_t ?_ | with_reducible refine vIf_f ?_)); refine vCall_eq (h2) (by simp (disch := omega) only [go_sem]) rfl (by first | exact Or.inl rfl | exact Or.inr ⟨rfl, rfl⟩ | (apply Or.inr; simp only [go_sem])) ?_; (repeat (first | simp (maxSteps := 2000000) (disch := omega) only [go_sem, ↓reduceIte] | with_reducible refine vIf_t ?_ | with_reducible refine vIf_f ?_)))
      cases b2 with
      | false =>
        rw [hy (.inr rfl)]
        (repeat (first | simp (maxSteps := 2000000) (disch := omega) only [go_sem, ↓reduceIte] | with_reducible refine vIf_t ?_ | with_reducible refine vIf_f ?_))
        (refine retK_of ?_; (repeat (first | simp (maxSteps := 2000000) (disch := omega) only [go_sem, ↓reduceIte] | with_reducible refine vIf_t ?_ | with_reducible refine vIf_f ?_)))
        try rfl
      | true =>
        (repeat (first | simp (maxSteps := 2000000) (disch := omega) only [go_sem, ↓reduceIte] | with_reducible refine vIf_t ?_ | with_reducible refine vIf_f ?_))
        refine againF (k + 1) ⟨by omega, hj2 rfl rfl⟩ (by omega) (by (first | (refine leF_s ?_; ((repeat (first | simp (maxSteps := 2000000) (disch := omega) only [go_sem, ↓reduceIte] | with_reducible refine vIf_t ?_ | with_reducible refine vIf_f ?_)); all_goals (try simp); all_goals (try omega)); done) | (refine leF_p ?_; ((repeat (first | simp (maxSteps := 2000000) (disch := omega) only [go_sem, ↓reduceIte] | with_reducible refine vIf_t ?_ | with_reducible refine vIf_f ?_)); all_goals (try simp); all_goals (try omega)); done)))
  · have ek : k = a.length := by omega
    rw [hall fun j h => hj j (by omega)]
    (repeat (first | simp (maxSteps := 2000000) (disch := omega) only [go_sem, ↓reduceIte] | with_reducible refine vIf_t ?_ | with_reducible refine vIf_f ?_))
    (refine retK_of ?_; (repeat (first | simp (maxSteps := 2000000) (disch := omega) only [go_sem, ↓reduceIte] | with_reducible refine vIf_t ?_ | with_reducible refine vIf_f ?_)))
    try rfl
theorem gateFault_ok (op : List Bool) (a b : List Int) (ho : op.length ≤ 10000000) (ha : a.length ≤ 10000000) (hb : b.length ≤ 10000000) : ACalls Tryz.prog 12 [.sl op.length (bls op), .sl a.length (ints a), .sl b.length (ints b)] [] (fun r o => r = .tup [I (gfR op a b).1, I (gfR op a b).2] ∧ o = []) := by
  refine ACalls.of_vc Tryz.func12 rfl (by decide) 42 rfl [.tmp 6, .tmp 7] rfl (by simp) ?_
  have h1 := areSides_ok a b ha hb
  unfold gfR
  cases hs : sdB a b with
  | false =>
    rw [hs] at h1
    (repeat (first | simp (maxSteps := 2000000) (disch := omega) only [go_sem, ↓reduceIte] | with_reducible refine vIf_t ?_ | with_reducible refine vIf_f ?_))
    (refine vCallX_of ?_; (repeat (first | simp (maxSteps := 2000000) (disch := omega) only [go_sem, ↓reduceIte] | with_reducible refine vIf_t ?_ | with_reducible refine vIf_f ?_)); refine vCall_eq (h1) (by simp (disch := omega) only [go_sem]) rfl (by first | exact Or.inl rfl | exact Or.inr ⟨rfl, rfl⟩ | (apply Or.inr; simp only [go_sem])) ?_; (repeat (first | simp (maxSteps := 2000000) (disch := omega) only [go_sem, ↓reduceIte] | with_reducible refine vIf_t ?_ | with_reducible refine vIf_f ?_)))
    (refine retK_of ?_; (repeat (first | simp (maxSteps := 2000000) (disch := omega) only [go_sem, ↓reduceIte] | with_reducible refine vIf_t ?_ | with_reducible refine vIf_f ?_)))
    try rfl
  | true =>
    rw [hs] at h1
    have hab : a.length = b.length := by simp [sdB] at hs; exact hs.2.1
    by_cases c2 : op.length = a.length
    case neg =>
      have d2 : ((op.length : Int) != (a.length : Int)) = true := by simp; omega
      rw [decide_eq_false c2]
      (repeat (first | simp (maxSteps := 2000000) (disch := omega) only [go_sem, ↓reduceIte] | with_reducible refine vIf_t ?_ | with_reducible refine vIf_f ?_))
      (refine vCallX_of ?_; (repeat (first | simp (maxSteps := 2000000) (disch := omega) only [go_sem, ↓reduceIte] | with_reducible refine vIf_t ?_ | with_reducible refine vIf_f ?_)); refine vCall_eq (h1) (by simp (disch := omega) only [go_sem]) rfl (by first | exact Or.inl rfl | exact Or.inr ⟨rfl, rfl⟩ | (apply Or.inr; simp only [go_sem])) ?_; (repeat (first | simp (maxSteps := 2000000) (disch := omega) only [go_sem, ↓reduceIte] | with_reducible refine vIf_t ?_ | with_reducible refine vIf_f ?_)))
      (try (repeat (first | simp (maxSteps := 2000000) (disch := omega) only [go_sem, ↓reduceIte, d2] | with_reducible refine vIf_t ?_ | with_reducible refine vIf_f ?_)))
      (refine retK_of ?_; (repeat (first | simp (maxSteps := 2000000) (disch := omega) only [go_sem, ↓reduceIte] | with_reducible refine vIf_t ?_ | with_reducible refine vIf_f ?_)))
      try rfl
    have d2 : ((op.length : Int) != (a.length : Int)) = false := by simp; omega
    rw [decide_eq_true c2, Bool.and_self, if_pos rfl]
    (repeat (first | simp (maxSteps := 2000000) (disch := omega) only [go_sem, ↓reduceIte] | with_reducible refine vIf_t ?_ | with_reducible refine vIf_f ?_))
    (refine vCallX_of ?_; (repeat (first | simp (maxSteps := 2000000) (disch := omega) only [go_sem, ↓reduceIte] | with_reducible refine vIf_t ?_ | with_reducible refine vIf_f ?_)); refine vCall_eq (h1) (by simp (disch := omega) only [go_sem]) rfl (by first | exact Or.inl rfl | exact Or.inr ⟨rfl, rfl⟩ | (apply Or.inr; simp only [go_sem])) ?_; (repeat (first | simp (maxSteps := 2000000) (disch := omega) only [go_sem, ↓reduceIte] | with_reducible refine vIf_t ?_ | with_reducible refine vIf_f ?_)))
    (try (repeat (first | simp (maxSteps := 2000000) (disch := omega) only [go_sem, ↓reduceIte, d2] | with_reducible refine vIf_t ?_ | with_reducible refine vIf_f ?_)))
    refine vcLoop_invF (fun k : Nat => k ≤ op.length ∧ ∀ j, j < k → gfQ op a b j = false) (fun k => ⟨42, 0, [(23, I k), (1, .sl a.length (ints a)), (2, .sl b.length (ints b)), (21, .sl op.length (bls op)), (22, I op.length)], []⟩) (fun k => op.length - k) 0 ⟨by omega, fun j h => by omega⟩ (by (first | (refine leF_s ?_; ((repeat (first | simp (maxSteps := 2000000) (disch := omega) only [go_sem, ↓reduceIte] | with_reducible refine vIf_t ?_ | with_reducible refine vIf_f ?_)); all_goals (try simp); all_goals (try omega)); done) | (refine leF_p ?_; ((repeat (first | simp (maxSteps := 2000000) (disch := omega) only [go_sem, ↓reduceIte] | with_reducible refine vIf_t ?_ | with_reducible refine vIf_f ?_)); all_goals (try simp); all_goals (try omega)); done))) ?_
    rintro k ⟨hk, hj⟩
    have hj2 : gfQ op a b k = false → ∀ j, j < k + 1 → gfQ op a b j = false := by
      intro q1 j hj3
      by_cases e : j = k
      · subst e; exact q1
      · exact hj j (by omega)
    (repeat (first | simp (maxSteps := 2000000) (disch := omega) only [go_sem, ↓reduceIte] | with_reducible refine vIf_t ?_ | with_reducible refine vIf_f ?_))
    refine vIf_dec (fun h5 => ?_) (fun h5 => ?_)
    · have hkl : k < op.length := by omega
      cases hb1 : gb op k with
      | false =>
        (repeat (first | simp (maxSteps := 2000000) (disch := omega) only [go_sem, ↓reduceIte] | with_reducible refine vIf_t ?_ | with_reducible refine vIf_f ?_))
        (try (repeat (first | simp (maxSteps := 2000000) (disch := omega) only [go_sem, ↓reduceIte, hb1] | with_reducible refine vIf_t ?_ | with_reducible refine vIf_f ?_)))
        (refine vDraw_sch 10 [(0, false), (1, false), (2, false), (3, false), (4, false), (5, false), (6, false), (7, false), (8, false), (9, false)] mixed (by kernel_rfl) ?_; simp only [List.cons_append, List.nil_append, List.map_cons, List.map_nil, nthO_zero, nthO_succ, List.drop_succ_cons, List.drop_zero, List.drop_nil]; (repeat (first | simp (maxSteps := 2000000) (disch := omega) only [go_sem, ↓reduceIte] | with_reducible refine vIf_t ?_ | with_reducible refine vIf_f ?_)))
        (try (repeat (first | simp (maxSteps := 2000000) (disch := omega) only [go_sem, ↓reduceIte, hb1] | with_reducible refine vIf_t ?_ | with_reducible refine vIf_f ?_)))
        refine againF (k + 1) ⟨by omega, hj2 (by simp [gfQ, hb1])⟩ (by omega) (by (first | (refine leF_s ?_; ((repeat (first | simp (maxSteps := 2000000) (disch := omega) only [go_sem, ↓reduceIte] | with_reducible refine vIf_t ?_ | with_reducible refine vIf_f ?_)); all_goals (try simp); all_goals (try omega)); done) | (refine leF_p ?_; ((repeat (first | simp (maxSteps := 2000000) (disch := omega) only [go_sem, ↓reduceIte] | with_reducible refine vIf_t ?_ | with_reducible refine vIf_f ?_)); all_goals (try simp); all_goals (try omega)); done)))
      | true =>
        by_cases hc : gi a k ≤ gi b k
        · have d3 : decide (gi a k ≤ gi b k) = true := decide_eq_true hc
          (repeat (first | simp (maxSteps := 2000000) (disch := omega) only [go_sem, ↓reduceIte] | with_reducible refine vIf_t ?_ | with_reducible refine vIf_f ?_))
          (try (repeat (first | simp (maxSteps := 2000000) (disch := omega) only [go_sem, ↓reduceIte, hb1] | with_reducible refine vIf_t ?_ | with_reducible refine vIf_f ?_)))
          (refine vDraw_sch 10 [(0, false), (1, false), (2, false), (3, false), (4, false), (5, false), (6, false), (7, false), (8, false), (9, false)] mixed (by kernel_rfl) ?_; simp only [List.cons_append, List.nil_append, List.map_cons, List.map_nil, nthO_zero, nthO_succ, List.drop_succ_cons, List.drop_zero, List.drop_nil]; (repeat (first | simp (maxSteps := 2000000) (disch := omega) only [go_sem, ↓reduceIte] | with_reducible refine vIf_t ?_ | with_reducible refine vIf_f ?_)))
          (try (repeat (first | simp (maxSteps := 2000000) (disch := omega) only [go_sem, ↓reduceIte, hb1, d3] | with_reducible refine vIf_t ?_ | with_reducible refine vIf_f ?_)))
          (refine retK_of ?_; (repeat (first | simp (maxSteps := 2000000) (disch := omega) only [go_sem, ↓reduceIte] | with_reducible refine vIf_t ?_ | with_reducible refine vIf_f ?_)))
          rw [fsR_yes k hkl (by simp [gfQ, hb1, hc]) hj]
        · have d3 : decide (gi a k ≤ gi b k) = false := decide_eq_false hc
          (repeat (first | simp (maxSteps := 2000000) (disch := omega) only [go_sem, ↓reduceIte] | with_reducible refine vIf_t ?_ | with_reducible refine vIf_f ?_))
          (try (repeat (first | simp (maxSteps := 2000000) (disch := omega) only [go_sem, ↓reduceIte, hb1] | with_reducible refine vIf_t ?_ | with_reducible refine vIf_f ?_)))
          (refine vDraw_sch 10 [(0, false), (1, false), (2, false), (3, false), (4, false), (5, false), (6, false), (7, false), (8, false), (9, false)] mixed (by kernel_rfl) ?_; simp only [List.cons_append, List.nil_append, List.map_cons, List.map_nil, nthO_zero, nthO_succ, List.drop_succ_cons, List.drop_zero, List.drop_nil]; (repeat (first | simp (maxSteps := 2000000) (disch := omega) only [go_sem, ↓reduceIte] | with_reducible refine vIf_t ?_ | with_reducible refine vIf_f ?_)))
          (try (repeat (first | simp (maxSteps := 2000000) (disch := omega) only [go_sem, ↓reduceIte, hb1, d3] | with_reducible refine vIf_t ?_ | with_reducible refine vIf_f ?_)))
          refine againF (k + 1) ⟨by omega, hj2 (by simp [gfQ, hc])⟩ (by omega) (by (first | (refine leF_s ?_; ((repeat (first | simp (maxSteps := 2000000) (disch := omega) only [go_sem, ↓reduceIte] | with_reducible refine vIf_t ?_ | with_reducible refine vIf_f ?_)); all_goals (try simp); all_goals (try omega)); done) | (refine leF_p ?_; ((repeat (first | simp (maxSteps := 2000000) (disch := omega) only [go_sem, ↓reduceIte] | with_reducible refine vIf_t ?_ | with_reducible refine vIf_f ?_)); all_goals (try simp); all_goals (try omega)); done)))
    · have ek : k = op.length := by omega
      subst ek
      rw [fsR_no hj]
      (repeat (first | simp (maxSteps := 2000000) (disch := omega) only [go_sem, ↓reduceIte] | with_reducible refine vIf_t ?_ | with_reducible refine vIf_f ?_))
      (refine retK_of ?_; (repeat (first | simp (maxSteps := 2000000) (disch := omega) only [go_sem, ↓reduceIte] | with_reducible refine vIf_t ?_ | with_reducible refine vIf_f ?_)))
end Go.Proofs.YtpjjjonplikilaaGreat
namespace Go.AG
open Go.RowKit

/-- a result and its objects, frozen one by one -/
inductive FzR : V → Objs → V → Prop where
  | done {r : V} {ob : Objs} (h : ob.all Option.isNone = true) : FzR r ob r
  | step {r r' : V} {ob : Objs} (l : Nat) (o : Ob) (ho : Live ob l o) (hi : V.immL o.cells = true) (h : FzR (r.frz (oneF l o)) ((trO (V.frz (oneF l o)) ob).set l none) r') : FzR r ob r'
theorem live_none {ob : Objs} (h : ob.all Option.isNone = true) {l : Nat} {o : Ob} (hl : Live ob l o) : False := by
  have h2 := List.all_eq_true.1 h
  unfold Live at hl
  have := h2 _ (List.mem_of_getElem? hl)
  simp at this
theorem FzR.ok {F : Fr} {w : World} {ρ : Nat → Pl} {r r' : V} {ob : Objs} {v : Value} (hf : FzR r ob r') (hh : HOk F w ρ ob) (hr : RepC w (F.Y ρ ob) ρ ob v r) : HOk F w ρ [] ∧ RepC w (F.Y ρ []) ρ [] v r' := by
  induction hf with
  | @done r ob h =>
    refine ⟨{ hh with obj := fun l o ho => by simp [Live] at ho, fresh := fun l o ho => by simp [Live] at ho, inj := fun l l' o o' ho => by simp [Live] at ho, stay := fun l o _ ho => by simp [Live] at ho }, ?_⟩
    refine hr.mono' (fun _ _ _ h => h) (fun b _ hY => ?_) (fun l o ho => (live_none h ho).elim)
    rcases hY with hx | ⟨l, o, ho, _⟩
    · exact .inl hx
    · simp [Live] at ho
  | @step r r' ob l o ho hi hs ih =>
    obtain ⟨h1, h2⟩ := hh.freeze ho hi
    exact ih h1 (h2 _ _ hr)
theorem ACalls.fz {P : Program} {f : FuncId} {args : List V} {Q Q' : V → Objs → Prop} (h : ACalls P f args [] Q) (hq : ∀ r o, Q r o → ∃ r', FzR r o r' ∧ Q' r' []) : ACalls P f args [] Q' :=
  ⟨h.1, fun w X ρ vs h0 h1 h2 h3 => (h.2 w X ρ vs h0 h1 h2 h3).mono fun e w' ⟨v, r, o, ρ', he, hQ, hh, hr⟩ => by
    obtain ⟨r', hf, hQ'⟩ := hq r o hQ
    obtain ⟨k1, k2⟩ := hf.ok hh hr
    exact ⟨v, r', [], ρ', he, hQ', k1, k2⟩⟩
end Go.AG
namespace Go.AG

/-- a row of one's own, or nil where it has no elements -/
def RowR (xs : List Int) (c : Int) (r : V) (o : Objs) : Prop := (r = .tup [.ref 0 0 xs.length, I c] ∧ o = [oI xs]) ∨ (xs = [] ∧ r = .tup [.sc (.slice none 0 0), I c] ∧ o = [])
theorem RowR.fz {P : Program} {f : FuncId} {args : List V} {xs : List Int} {c : Int} (h : ACalls P f args [] (RowR xs c)) : ACalls P f args [] (fun r o => r = .tup [.sl xs.length (ints xs), I c] ∧ o = []) := by
  have h1 : ACalls P f args [] (fun r o => (r = .tup [.sl xs.length (ints xs), I c] ∧ o = []) ∨ (xs = [] ∧ r = .tup [.sc (.slice none 0 0), I c] ∧ o = [])) := by
    refine h.fz ?_
    rintro r o (⟨rfl, rfl⟩ | ⟨h1, rfl, rfl⟩)
    · refine ⟨.tup [.sl xs.length (ints xs), I c], .step 0 ⟨1, ints xs⟩ rfl (by (repeat (first | simp (maxSteps := 2000000) (disch := omega) only [go_sem, ↓reduceIte] | with_reducible refine vIf_t ?_ | with_reducible refine vIf_f ?_))) ?_, .inl ⟨rfl, rfl⟩⟩
      (repeat (first | simp (maxSteps := 2000000) (disch := omega) only [go_sem, ↓reduceIte] | with_reducible refine vIf_t ?_ | with_reducible refine vIf_f ?_))
      exact .done rfl
    · exact ⟨_, .done rfl, .inr ⟨h1, rfl, rfl⟩⟩
  refine h1.leD ?_
  rintro r o (⟨rfl, rfl⟩ | ⟨h1, rfl, rfl⟩)
  · exact ⟨_, .le (V.le_refl _), rfl, rfl⟩
  · subst h1
    exact ⟨_, LeD.tup' (leD_nilS (leD_same _ leD_nil)), rfl, rfl⟩
/-- a row of one's own -/
theorem ACalls.fzI {P : Program} {f : FuncId} {args : List V} {xs : List Int} (h : ACalls P f args [] (fun r o => r = .ref 0 0 xs.length ∧ o = [oI xs])) : ACalls P f args [] (fun r o => r = .sl xs.length (ints xs) ∧ o = []) := by
  refine h.fz ?_
  rintro r o ⟨rfl, rfl⟩
  refine ⟨.sl xs.length (ints xs), .step 0 ⟨1, ints xs⟩ rfl (by (repeat (first | simp (maxSteps := 2000000) (disch := omega) only [go_sem, ↓reduceIte] | with_reducible refine vIf_t ?_ | with_reducible refine vIf_f ?_))) ?_, rfl, rfl⟩
  (repeat (first | simp (maxSteps := 2000000) (disch := omega) only [go_sem, ↓reduceIte] | with_reducible refine vIf_t ?_ | with_reducible refine vIf_f ?_))
  exact .done rfl
/-! numbers as keys of a map -/
def mpB (L : List Int) : List (Int × Value) := L.map fun x => (x, .bool true)
@[go_sem] theorem mget_mpB (L : List Int) (k : Int) : (mget (mpB L) k).getD (.bool false) = .bool (decide (k ∈ L)) := by
  induction L with
  | nil => simp [mpB, mget]
  | cons x L ih =>
    simp only [mpB, List.map_cons, mget]
    by_cases h : k = x
    · simp [h]
    · rw [if_neg h]
      have : decide (k ∈ x :: L) = decide (k ∈ L) := by simp [h]
      rw [this]; exact ih
@[go_sem] theorem length_mpB (L : List Int) : (mpB L).length = L.length := by simp [mpB]
@[go_sem] theorem mput_mpB (L : List Int) (k : Int) : mput (mpB L) k (.bool true) = mpB (if k ∈ L then L else L ++ [k]) := by
  induction L with
  | nil => simp [mpB, mput]
  | cons x L ih =>
    simp only [mpB, List.map_cons, mput]
    by_cases h : k = x
    · subst h; simp
    · rw [if_neg h]
      have e : mput (List.map (fun x => (x, Value.bool true)) L) k (.bool true) = mpB (if k ∈ L then L else L ++ [k]) := ih
      rw [e]
      by_cases h2 : k ∈ L
      · rw [if_pos h2, if_pos (List.mem_cons_of_mem _ h2)]; rfl
      · rw [if_neg h2, if_neg (by simp [h, h2])]; rfl
@[go_sem] theorem mdel_mpB (L : List Int) (k : Int) : mdel (mpB L) k = mpB (L.erase k) := by
  induction L with
  | nil => simp [mpB, mdel]
  | cons x L ih =>
    simp only [mpB, List.map_cons, mdel]
    by_cases h : k = x
    · subst h; simp
    · rw [if_neg h, List.erase_cons_tail (by simpa using fun e => h e.symm)]
      have e : mdel (List.map (fun x => (x, Value.bool true)) L) k = mpB (L.erase k) := ih
      rw [e]; rfl
@[go_sem] theorem mpB_nil : ([] : List (Int × Value)) = mpB [] := rfl
end Go.AG
namespace Go.Proofs.YtpjjjonplikilaaGreat
open Go.AG

attribute [local go_sem] beq_self_eq_true bne_self_eq_false Bool.not_true Bool.not_false
structure SdO (a b : List Int) : Prop where
  n : a.length ≤ 200
  e : a.length = b.length
  al : ∀ i, i < a.length → lvB (gi a i) = true
  bl : ∀ i, i < a.length → lvB (gi b i) = true
theorem sd_ok {a b : List Int} (h : sdB a b = true) : SdO a b := by
  simp only [sdB, Bool.and_eq_true, decide_eq_true_eq, List.all_eq_true] at h
  exact ⟨h.1, h.2.1, fun i hi => h.2.2.1 _ (gi_mem a i hi), fun i hi => h.2.2.2 _ (gi_mem b i (by omega))⟩
theorem l09Ser_ok (s : Slc) (a b : List Int) (ha : a.length ≤ 10000000) (hb : b.length ≤ 10000000) : ACalls Tryz.prog 68 [.agg s.cells, .sl a.length (ints a), .sl b.length (ints b)] [] (fun r o => r = I (if okS s = true then (if sdB a b = true then 0 else 2) else 1) ∧ o = []) := by
  refine ACalls.of_vc Tryz.func68 rfl (by decide) 13 rfl [.tmp 6] rfl (by simp) ?_
  have h1 := l09Ok_ok s
  have h2 := l09Levels_ok a b ha hb
  unfold Slc.cells at h1 ⊢
  (repeat (first | simp (maxSteps := 2000000) (disch := omega) only [go_sem, ↓reduceIte] | with_reducible refine vIf_t ?_ | with_reducible refine vIf_f ?_))
  (refine vCallX_of ?_; (repeat (first | simp (maxSteps := 2000000) (disch := omega) only [go_sem, ↓reduceIte] | with_reducible refine vIf_t ?_ | with_reducible refine vIf_f ?_)); refine vCall_eq (h1) (by simp (disch := omega) only [go_sem]) rfl (by first | exact Or.inl rfl | exact Or.inr ⟨rfl, rfl⟩ | (apply Or.inr; simp only [go_sem])) ?_; (repeat (first | simp (maxSteps := 2000000) (disch := omega) only [go_sem, ↓reduceIte] | with_reducible refine vIf_t ?_ | with_reducible refine vIf_f ?_)))
  cases hs : okS s with
  | false =>
    (repeat (first | simp (maxSteps := 2000000) (disch := omega) only [go_sem, ↓reduceIte, hs] | with_reducible refine vIf_t ?_ | with_reducible refine vIf_f ?_))
    (refine retK_of ?_; (repeat (first | simp (maxSteps := 2000000) (disch := omega) only [go_sem, ↓reduceIte] | with_reducible refine vIf_t ?_ | with_reducible refine vIf_f ?_)))
    all_goals (try simp)
  | true =>
    (repeat (first | simp (maxSteps := 2000000) (disch := omega) only [go_sem, ↓reduceIte, hs] | with_reducible refine vIf_t ?_ | with_reducible refine vIf_f ?_))
    (refine vCallX_of ?_; (repeat (first | simp (maxSteps := 2000000) (disch := omega) only [go_sem, ↓reduceIte] | with_reducible refine vIf_t ?_ | with_reducible refine vIf_f ?_)); refine vCall_eq (h2) (by simp (disch := omega) only [go_sem]) rfl (by first | exact Or.inl rfl | exact Or.inr ⟨rfl, rfl⟩ | (apply Or.inr; simp only [go_sem])) ?_; (repeat (first | simp (maxSteps := 2000000) (disch := omega) only [go_sem, ↓reduceIte] | with_reducible refine vIf_t ?_ | with_reducible refine vIf_f ?_)))
    (refine retK_of ?_; (repeat (first | simp (maxSteps := 2000000) (disch := omega) only [go_sem, ↓reduceIte] | with_reducible refine vIf_t ?_ | with_reducible refine vIf_f ?_)))
/-! orders -/
def nwO (s : Slc) (a b : List Int) (m : Int) (i : Nat) : Bool := decide (m ≤ gi a i - gi b i) && decide (s.sill < gi a i)
def bfO (s : Slc) (a b : List Int) (m : Int) (i : Nat) : Bool := if i = 0 then false else nwO s a b m (i - 1)
theorem bfO_zero (s : Slc) (a b : List Int) (m : Int) : bfO s a b m 0 = false := by simp [bfO]
theorem bfO_succ (s : Slc) (a b : List Int) (m : Int) (i : Nat) : bfO s a b m (i + 1) = nwO s a b m i := by simp [bfO]
def orO (n p : Bool) : Int := if n && !p then 1 else if !n && p then 2 else 0
def orL (s : Slc) (a b : List Int) (m : Int) (k : Nat) : List Int := (List.range k).map fun i => orO (nwO s a b m i) (bfO s a b m i)
@[go_sem] theorem orL_zero (s : Slc) (a b : List Int) (m : Int) : orL s a b m 0 = [] := _root_.id rfl
@[local go_sem] theorem orO1 : orO true false = 1 := _root_.id rfl
@[local go_sem] theorem orO2 : orO true true = 0 := _root_.id rfl
@[local go_sem] theorem orO3 : orO false true = 2 := _root_.id rfl
@[local go_sem] theorem orO4 : orO false false = 0 := _root_.id rfl
theorem orL_len (s : Slc) (a b : List Int) (m : Int) (k : Nat) : (orL s a b m k).length = k := by simp [orL]
theorem orL_succ (s : Slc) (a b : List Int) (m : Int) (k : Nat) : orL s a b m (k + 1) = orL s a b m k ++ [orO (nwO s a b m k) (bfO s a b m k)] := by simp [orL, List.range_succ]
def ofC (s : Slc) (a b : List Int) (m : Int) : Int := if okS s = true then if sdB a b = true ∧ 1 ≤ m ∧ m ≤ 4000 then 0 else 2 else 1
def ofL (s : Slc) (a b : List Int) (m : Int) : List Int := if ofC s a b m = 0 then orL s a b m a.length else []
/-- a row of one's own where the code is 0, else nil -/
def OwnR (xs : List Int) (c : Int) (r : V) (o : Objs) : Prop := (c = 0 ∧ r = .tup [.ref 0 0 xs.length, I c] ∧ o = [oI xs]) ∨ (c ≠ 0 ∧ xs = [] ∧ r = .tup [.sc (.slice none 0 0), I c] ∧ o = [])
theorem OwnR.row {xs : List Int} {c : Int} {r : V} {o : Objs} (h : OwnR xs c r o) : RowR xs c r o := h.elim (fun h => .inl h.2) (fun h => .inr h.2)
set_option maxHeartbeats 4000000 in
theorem ordersForS_own (s : Slc) (a b : List Int) (m : Int) (ha : a.length ≤ 10000000) (hb : b.length ≤ 10000000) : ACalls Tryz.prog 35 [.agg s.cells, .sl a.length (ints a), .sl b.length (ints b), I m] [] (OwnR (ofL s a b m) (ofC s a b m)) := by
  unfold OwnR
  refine ACalls.of_vc Tryz.func35 rfl (by decide) 73 rfl [.tmp 8, .tmp 9] rfl (by simp) ?_
  have h1 := l09Ser_ok s a b ha hb
  unfold Slc.cells at h1 ⊢
  cases hs : okS s with
  | false =>
    have ec : ofC s a b m = 1 := by simp [ofC, hs]
    rw [hs] at h1
    simp only [ofL, ec]
    (repeat (first | simp (maxSteps := 2000000) (disch := omega) only [go_sem, ↓reduceIte] | with_reducible refine vIf_t ?_ | with_reducible refine vIf_f ?_))
    (refine vCallX_of ?_; (repeat (first | simp (maxSteps := 2000000) (disch := omega) only [go_sem, ↓reduceIte] | with_reducible refine vIf_t ?_ | with_reducible refine vIf_f ?_)); refine vCall_eq (h1) (by simp (disch := omega) only [go_sem]) rfl (by first | exact Or.inl rfl | exact Or.inr ⟨rfl, rfl⟩ | (apply Or.inr; simp only [go_sem])) ?_; (repeat (first | simp (maxSteps := 2000000) (disch := omega) only [go_sem, ↓reduceIte] | with_reducible refine vIf_t ?_ | with_reducible refine vIf_f ?_)))
    (refine retK_of ?_; (repeat (first | simp (maxSteps := 2000000) (disch := omega) only [go_sem, ↓reduceIte] | with_reducible refine vIf_t ?_ | with_reducible refine vIf_f ?_)))
    first | exact trivial | (simp; done)
  | true =>
    cases hd : sdB a b with
    | false =>
      have ec : ofC s a b m = 2 := by simp [ofC, hs, hd]
      rw [hs, hd] at h1
      simp only [ofL, ec]
      (repeat (first | simp (maxSteps := 2000000) (disch := omega) only [go_sem, ↓reduceIte] | with_reducible refine vIf_t ?_ | with_reducible refine vIf_f ?_))
      (refine vCallX_of ?_; (repeat (first | simp (maxSteps := 2000000) (disch := omega) only [go_sem, ↓reduceIte] | with_reducible refine vIf_t ?_ | with_reducible refine vIf_f ?_)); refine vCall_eq (h1) (by simp (disch := omega) only [go_sem]) rfl (by first | exact Or.inl rfl | exact Or.inr ⟨rfl, rfl⟩ | (apply Or.inr; simp only [go_sem])) ?_; (repeat (first | simp (maxSteps := 2000000) (disch := omega) only [go_sem, ↓reduceIte] | with_reducible refine vIf_t ?_ | with_reducible refine vIf_f ?_)))
      (refine retK_of ?_; (repeat (first | simp (maxSteps := 2000000) (disch := omega) only [go_sem, ↓reduceIte] | with_reducible refine vIf_t ?_ | with_reducible refine vIf_f ?_)))
      first | exact trivial | (simp; done)
    | true =>
      rw [hs, hd] at h1
      (repeat (first | simp (maxSteps := 2000000) (disch := omega) only [go_sem, ↓reduceIte] | with_reducible refine vIf_t ?_ | with_reducible refine vIf_f ?_))
      (refine vCallX_of ?_; (repeat (first | simp (maxSteps := 2000000) (disch := omega) only [go_sem, ↓reduceIte] | with_reducible refine vIf_t ?_ | with_reducible refine vIf_f ?_)); refine vCall_eq (h1) (by simp (disch := omega) only [go_sem]) rfl (by first | exact Or.inl rfl | exact Or.inr ⟨rfl, rfl⟩ | (apply Or.inr; simp only [go_sem])) ?_; (repeat (first | simp (maxSteps := 2000000) (disch := omega) only [go_sem, ↓reduceIte] | with_reducible refine vIf_t ?_ | with_reducible refine vIf_f ?_)))
      (refine vCallX_of ?_; (repeat (first | simp (maxSteps := 2000000) (disch := omega) only [go_sem, ↓reduceIte] | with_reducible refine vIf_t ?_ | with_reducible refine vIf_f ?_)); refine vCall_eq (inS_ok m 1 4000) (by simp (disch := omega) only [go_sem]) rfl (by first | exact Or.inl rfl | exact Or.inr ⟨rfl, rfl⟩ | (apply Or.inr; simp only [go_sem])) ?_; (repeat (first | simp (maxSteps := 2000000) (disch := omega) only [go_sem, ↓reduceIte] | with_reducible refine vIf_t ?_ | with_reducible refine vIf_f ?_)))
      by_cases h3 : 1 ≤ m ∧ m ≤ 4000
      case neg =>
        have h3b : decide (1 ≤ m ∧ m ≤ 4000) = false := decide_eq_false h3
        have ec : ofC s a b m = 2 := by rw [ofC, if_pos hs, if_neg (fun h => h3 h.2)]
        simp only [ofL, ec]
        (repeat (first | simp (maxSteps := 2000000) (disch := omega) only [go_sem, ↓reduceIte, h3b] | with_reducible refine vIf_t ?_ | with_reducible refine vIf_f ?_))
        (refine retK_of ?_; (repeat (first | simp (maxSteps := 2000000) (disch := omega) only [go_sem, ↓reduceIte] | with_reducible refine vIf_t ?_ | with_reducible refine vIf_f ?_)))
        first | exact trivial | (simp; done)
      have h3b : decide (1 ≤ m ∧ m ≤ 4000) = true := decide_eq_true h3
      have ec : ofC s a b m = 0 := by rw [ofC, if_pos hs, if_pos ⟨hd, h3⟩]
      have D := sd_ok hd
      have hn := D.n
      have he := D.e
      simp only [ofL, ec, if_true, orL_len]
      (repeat (first | simp (maxSteps := 2000000) (disch := omega) only [go_sem, ↓reduceIte, h3b] | with_reducible refine vIf_t ?_ | with_reducible refine vIf_f ?_))
      refine vcLoop_invF (fun k : Nat => k ≤ a.length) (fun k => ⟨73, 0, [(13, I k), (11, .ref 0 0 k), (12, B (bfO s a b m k)), (4, .ptr 1 0), (1, .sl a.length (ints a)), (3, I m), (2, .sl b.length (ints b))], [oI (orL s a b m k), some ⟨2, [I s.wd, I s.sill]⟩]⟩) (fun k => a.length - k) 0 (by omega) (by rw [bfO_zero]; (first | (refine leF_s ?_; ((repeat (first | simp (maxSteps := 2000000) (disch := omega) only [go_sem, ↓reduceIte] | with_reducible refine vIf_t ?_ | with_reducible refine vIf_f ?_)); all_goals (try simp); all_goals (try omega)); done) | (refine leF_p ?_; ((repeat (first | simp (maxSteps := 2000000) (disch := omega) only [go_sem, ↓reduceIte] | with_reducible refine vIf_t ?_ | with_reducible refine vIf_f ?_)); all_goals (try simp); all_goals (try omega)); done))) ?_
      intro k hk
      have hol := orL_len s a b m k
      have hos := orL_succ s a b m k
      (repeat (first | simp (maxSteps := 2000000) (disch := omega) only [go_sem, ↓reduceIte] | with_reducible refine vIf_t ?_ | with_reducible refine vIf_f ?_))
      refine vIf_dec (fun hh => ?_) (fun hh => ?_)
      · have hkl : k < a.length := by omega
        have la := lvB_f (D.al k hkl)
        have lb := lvB_f (D.bl k hkl)
        have hnw : nwO s a b m k = (decide (m ≤ gi a k - gi b k) && decide (s.sill < gi a k)) := rfl
        have hbs := bfO_succ s a b m k
        generalize hp : bfO s a b m k = p at *
        generalize hq : nwO s a b m k = q at *
        (repeat (first | simp (maxSteps := 2000000) (disch := omega) only [go_sem, ↓reduceIte] | with_reducible refine vIf_t ?_ | with_reducible refine vIf_f ?_))
        (refine vDraw_sch 18 [(0, false), (1, false), (2, false), (4, false), (5, false), (6, false), (9, false), (3, false), (7, true), (8, false), (10, false), (11, false), (12, false), (13, false), (14, false), (15, false), (16, false), (17, false)] mixed (by kernel_rfl) ?_; simp only [List.cons_append, List.nil_append, List.map_cons, List.map_nil, nthO_zero, nthO_succ, List.drop_succ_cons, List.drop_zero, List.drop_nil]; (repeat (first | simp (maxSteps := 2000000) (disch := omega) only [go_sem, ↓reduceIte] | with_reducible refine vIf_t ?_ | with_reducible refine vIf_f ?_)))
        by_cases c1 : m ≤ gi a k - gi b k
        · have d1 : decide (m ≤ gi a k - gi b k) = true := decide_eq_true c1
          by_cases c2 : s.sill < gi a k
          · have d2 : decide (s.sill < gi a k) = true := decide_eq_true c2
            have hqv : q = true := by rw [hnw, d1, d2]; rfl
            subst hqv
            cases p
            · (try (repeat (first | simp (maxSteps := 2000000) (disch := omega) only [go_sem, ↓reduceIte, d1, d2] | with_reducible refine vIf_t ?_ | with_reducible refine vIf_f ?_)))
              refine againF (k + 1) (by omega) (by omega) ?_
              rw [hos, hbs]
              (first | (refine leF_s ?_; ((repeat (first | simp (maxSteps := 2000000) (disch := omega) only [go_sem, ↓reduceIte] | with_reducible refine vIf_t ?_ | with_reducible refine vIf_f ?_)); all_goals (try simp); all_goals (try omega)); done) | (refine leF_p ?_; ((repeat (first | simp (maxSteps := 2000000) (disch := omega) only [go_sem, ↓reduceIte] | with_reducible refine vIf_t ?_ | with_reducible refine vIf_f ?_)); all_goals (try simp); all_goals (try omega)); done))
            · (try (repeat (first | simp (maxSteps := 2000000) (disch := omega) only [go_sem, ↓reduceIte, d1, d2] | with_reducible refine vIf_t ?_ | with_reducible refine vIf_f ?_)))
              refine againF (k + 1) (by omega) (by omega) ?_
              rw [hos, hbs]
              (first | (refine leF_s ?_; ((repeat (first | simp (maxSteps := 2000000) (disch := omega) only [go_sem, ↓reduceIte] | with_reducible refine vIf_t ?_ | with_reducible refine vIf_f ?_)); all_goals (try simp); all_goals (try omega)); done) | (refine leF_p ?_; ((repeat (first | simp (maxSteps := 2000000) (disch := omega) only [go_sem, ↓reduceIte] | with_reducible refine vIf_t ?_ | with_reducible refine vIf_f ?_)); all_goals (try simp); all_goals (try omega)); done))
          · have d2 : decide (s.sill < gi a k) = false := decide_eq_false c2
            have hqv : q = false := by rw [hnw, d1, d2]; rfl
            subst hqv
            cases p
            · (try (repeat (first | simp (maxSteps := 2000000) (disch := omega) only [go_sem, ↓reduceIte, d1, d2] | with_reducible refine vIf_t ?_ | with_reducible refine vIf_f ?_)))
              refine againF (k + 1) (by omega) (by omega) ?_
              rw [hos, hbs]
              (first | (refine leF_s ?_; ((repeat (first | simp (maxSteps := 2000000) (disch := omega) only [go_sem, ↓reduceIte] | with_reducible refine vIf_t ?_ | with_reducible refine vIf_f ?_)); all_goals (try simp); all_goals (try omega)); done) | (refine leF_p ?_; ((repeat (first | simp (maxSteps := 2000000) (disch := omega) only [go_sem, ↓reduceIte] | with_reducible refine vIf_t ?_ | with_reducible refine vIf_f ?_)); all_goals (try simp); all_goals (try omega)); done))
            · (try (repeat (first | simp (maxSteps := 2000000) (disch := omega) only [go_sem, ↓reduceIte, d1, d2] | with_reducible refine vIf_t ?_ | with_reducible refine vIf_f ?_)))
              refine againF (k + 1) (by omega) (by omega) ?_
              rw [hos, hbs]
              (first | (refine leF_s ?_; ((repeat (first | simp (maxSteps := 2000000) (disch := omega) only [go_sem, ↓reduceIte] | with_reducible refine vIf_t ?_ | with_reducible refine vIf_f ?_)); all_goals (try simp); all_goals (try omega)); done) | (refine leF_p ?_; ((repeat (first | simp (maxSteps := 2000000) (disch := omega) only [go_sem, ↓reduceIte] | with_reducible refine vIf_t ?_ | with_reducible refine vIf_f ?_)); all_goals (try simp); all_goals (try omega)); done))
        · have d1 : decide (m ≤ gi a k - gi b k) = false := decide_eq_false c1
          have hqv : q = false := by rw [hnw, d1]; rfl
          subst hqv
          cases p
          · (try (repeat (first | simp (maxSteps := 2000000) (disch := omega) only [go_sem, ↓reduceIte, d1] | with_reducible refine vIf_t ?_ | with_reducible refine vIf_f ?_)))
            refine againF (k + 1) (by omega) (by omega) ?_
            rw [hos, hbs]
            (first | (refine leF_s ?_; ((repeat (first | simp (maxSteps := 2000000) (disch := omega) only [go_sem, ↓reduceIte] | with_reducible refine vIf_t ?_ | with_reducible refine vIf_f ?_)); all_goals (try simp); all_goals (try omega)); done) | (refine leF_p ?_; ((repeat (first | simp (maxSteps := 2000000) (disch := omega) only [go_sem, ↓reduceIte] | with_reducible refine vIf_t ?_ | with_reducible refine vIf_f ?_)); all_goals (try simp); all_goals (try omega)); done))
          · (try (repeat (first | simp (maxSteps := 2000000) (disch := omega) only [go_sem, ↓reduceIte, d1] | with_reducible refine vIf_t ?_ | with_reducible refine vIf_f ?_)))
            refine againF (k + 1) (by omega) (by omega) ?_
            rw [hos, hbs]
            (first | (refine leF_s ?_; ((repeat (first | simp (maxSteps := 2000000) (disch := omega) only [go_sem, ↓reduceIte] | with_reducible refine vIf_t ?_ | with_reducible refine vIf_f ?_)); all_goals (try simp); all_goals (try omega)); done) | (refine leF_p ?_; ((repeat (first | simp (maxSteps := 2000000) (disch := omega) only [go_sem, ↓reduceIte] | with_reducible refine vIf_t ?_ | with_reducible refine vIf_f ?_)); all_goals (try simp); all_goals (try omega)); done))
      · have hke : k = a.length := by omega
        subst hke
        (repeat (first | simp (maxSteps := 2000000) (disch := omega) only [go_sem, ↓reduceIte] | with_reducible refine vIf_t ?_ | with_reducible refine vIf_f ?_))
        (refine retK_of ?_; (repeat (first | simp (maxSteps := 2000000) (disch := omega) only [go_sem, ↓reduceIte] | with_reducible refine vIf_t ?_ | with_reducible refine vIf_f ?_)))
        first | exact trivial | (simp; done)
end Go.Proofs.YtpjjjonplikilaaGreat
namespace Go.Proofs.YtpjjjonplikilaaGreat
open Go.AG

/-- the places at which something is so -/
def ixs (n : Nat) (q : Nat → Bool) : List Int := ((List.range n).filter q).map fun (i : Nat) => (i : Int)
theorem ixs_yes {n : Nat} {q : Nat → Bool} (h : q n = true) : ixs (n + 1) q = ixs n q ++ [(n : Int)] := by simp [ixs, List.range_succ, h]
theorem ixs_no {n : Nat} {q : Nat → Bool} (h : q n = false) : ixs (n + 1) q = ixs n q := by simp [ixs, List.range_succ, h]
end Go.Proofs.YtpjjjonplikilaaGreat
namespace Go.Proofs.YtpjjjonplikilaaGreat
open Go.AG

attribute [local go_sem] beq_self_eq_true bne_self_eq_false Bool.not_true Bool.not_false
def GtR (xs : List Gt) (c : Int) (r : V) (o : Objs) : Prop := (r = .tup [.ref 0 0 xs.length, I c] ∧ o = [some ⟨3, cGt xs⟩]) ∨ (xs = [] ∧ r = .tup [.sc (.slice none 0 0), I c] ∧ o = [])
theorem GtR.fz {P : Program} {f : FuncId} {args : List V} {xs : List Gt} {c : Int} (h : ACalls P f args [] (GtR xs c)) : ACalls P f args [] (fun r o => r = .tup [.sl xs.length (cGt xs), I c] ∧ o = []) := by
  have h1 : ACalls P f args [] (fun r o => (r = .tup [.sl xs.length (cGt xs), I c] ∧ o = []) ∨ (xs = [] ∧ r = .tup [.sc (.slice none 0 0), I c] ∧ o = [])) := by
    refine h.fz ?_
    rintro r o (⟨rfl, rfl⟩ | ⟨h1, rfl, rfl⟩)
    · refine ⟨.tup [.sl xs.length (cGt xs), I c], .step 0 ⟨3, cGt xs⟩ rfl (by (repeat (first | simp (maxSteps := 2000000) (disch := omega) only [go_sem, ↓reduceIte] | with_reducible refine vIf_t ?_ | with_reducible refine vIf_f ?_))) ?_, .inl ⟨rfl, rfl⟩⟩
      (repeat (first | simp (maxSteps := 2000000) (disch := omega) only [go_sem, ↓reduceIte] | with_reducible refine vIf_t ?_ | with_reducible refine vIf_f ?_))
      exact .done rfl
    · exact ⟨_, .done rfl, .inr ⟨h1, rfl, rfl⟩⟩
  refine h1.leD ?_
  rintro r o (⟨rfl, rfl⟩ | ⟨h1, rfl, rfl⟩)
  · exact ⟨_, .le (V.le_refl _), rfl, rfl⟩
  · subst h1
    exact ⟨_, LeD.tup' (leD_nilS (leD_same _ leD_nil)), rfl, rfl⟩
theorem stp_ok9 {s : Slc} {g : Gt} {ord i o : Int} (h : (stpS s g ord i o).2 = 0) : okG9 (stpS s g ord i o).1 = true := by
  by_cases c : ord = 1 ∧ i ≤ o
  · unfold stpS at h
    rw [if_pos c] at h
    simp at h
  · have e : stpS s g ord i o = finG ⟨opn g ord i o, if opn g ord i o = true then g.ps + flw s i o else g.ps, if opn g ord i o = g.op then g.mv else g.mv + 1⟩ := if_neg c
    rw [e] at h ⊢
    generalize (⟨opn g ord i o, if opn g ord i o = true then g.ps + flw s i o else g.ps, if opn g ord i o = g.op then g.mv else g.mv + 1⟩ : Gt) = q at *
    cases hq : okG9 q with
    | true => rw [finG_y hq]; exact hq
    | false => rw [finG_n hq] at h; simp at h
/-- the state after some hours, and the code -/
def sgS (s : Slc) (os a b : List Int) : Nat → Gt × Int
  | 0 => (zG, 0)
  | k + 1 => if (sgS s os a b k).2 = 0 then stpS s (sgS s os a b k).1 (gi os k) (gi a k) (gi b k) else sgS s os a b k
@[local go_sem] theorem zG1 : zG.op = false := _root_.id rfl
@[local go_sem] theorem zG2 : zG.ps = 0 := _root_.id rfl
@[local go_sem] theorem zG3 : zG.mv = 0 := _root_.id rfl
theorem sgK0 (s : Slc) (os a b : List Int) : sgS s os a b 0 = (zG, 0) := rfl
theorem sgK_ok (s : Slc) (os a b : List Int) (k : Nat) (h : (sgS s os a b k).2 = 0) : okG9 (sgS s os a b k).1 = true := by
  induction k with
  | zero => rfl
  | succ k ih =>
    rw [sgS] at h ⊢
    split at h
    · rename_i hc; rw [if_pos hc]; exact stp_ok9 h
    · omega
theorem sgK_stop (s : Slc) (os a b : List Int) (k n : Nat) (h : (sgS s os a b k).2 ≠ 0) (hn : k ≤ n) : sgS s os a b n = sgS s os a b k := by
  induction n with
  | zero => rw [show k = 0 by omega]
  | succ n ih =>
    by_cases e : k = n + 1
    · rw [e]
    · have := ih (by omega)
      rw [sgS, if_neg (by rw [this]; exact h), this]
def sgL (s : Slc) (os a b : List Int) (k : Nat) : List Gt := (List.range k).map fun i => (sgS s os a b (i + 1)).1
@[go_sem] theorem sgL_zero (s : Slc) (os a b : List Int) : sgL s os a b 0 = [] := _root_.id rfl
theorem sgL_len (s : Slc) (os a b : List Int) (k : Nat) : (sgL s os a b k).length = k := by simp [sgL]
theorem sgL_succ (s : Slc) (os a b : List Int) (k : Nat) : sgL s os a b (k + 1) = sgL s os a b k ++ [⟨(sgS s os a b (k + 1)).1.op, (sgS s os a b (k + 1)).1.ps, (sgS s os a b (k + 1)).1.mv⟩] := by simp [sgL, List.range_succ]
def orB (os : List Int) : Bool := os.all fun n => decide (0 ≤ n ∧ n ≤ 2)
def rsC (s : Slc) (os a b : List Int) : Int := if okS s = true then if sdB a b = true ∧ os.length = a.length ∧ orB os = true then (sgS s os a b a.length).2 else 2 else 1
def rsQ (s : Slc) (os a b : List Int) : List Gt := if rsC s os a b = 0 then sgL s os a b a.length else []
set_option maxHeartbeats 8000000 in
theorem runSl_ok (s : Slc) (os a b : List Int) (ho : os.length ≤ 10000000) (ha : a.length ≤ 10000000) (hb : b.length ≤ 10000000) : ACalls Tryz.prog 11 [.agg s.cells, .sl os.length (ints os), .sl a.length (ints a), .sl b.length (ints b)] [] (fun r o => r = .tup [.sl (rsQ s os a b).length (cGt (rsQ s os a b)), I (rsC s os a b)] ∧ o = []) := by
  refine GtR.fz (ACalls.mono (Q := fun r o => r = .tup [.ref 0 0 (rsQ s os a b).length, I (rsC s os a b)] ∧ o = [some ⟨3, cGt (rsQ s os a b)⟩]) ?_ fun r o h => .inl h)
  refine ACalls.of_vc Tryz.func11 rfl (by decide) 74 rfl [.tmp 8, .tmp 9] rfl (by simp) ?_
  have h1 := validSl_ok s
  have h2 := areSides_ok a b ha hb
  have hall := all_ok 41 [] (fun n => decide (0 ≤ n ∧ n ≤ 2)) os (fun x _ => isOrder_ok x) rfl ho
  unfold Slc.cells at h1 ⊢
  unfold iS at hall
  (repeat (first | simp (maxSteps := 2000000) (disch := omega) only [go_sem, ↓reduceIte] | with_reducible refine vIf_t ?_ | with_reducible refine vIf_f ?_))
  (refine vCallX_of ?_; (repeat (first | simp (maxSteps := 2000000) (disch := omega) only [go_sem, ↓reduceIte] | with_reducible refine vIf_t ?_ | with_reducible refine vIf_f ?_)); refine vCall_eq (h1) (by simp (disch := omega) only [go_sem]) rfl (by first | exact Or.inl rfl | exact Or.inr ⟨rfl, rfl⟩ | (apply Or.inr; simp only [go_sem])) ?_; (repeat (first | simp (maxSteps := 2000000) (disch := omega) only [go_sem, ↓reduceIte] | with_reducible refine vIf_t ?_ | with_reducible refine vIf_f ?_)))
  cases hs : okS s with
  | false =>
    have ec : rsC s os a b = 1 := by simp [rsC, hs]
    simp only [rsQ, ec]
    (repeat (first | simp (maxSteps := 2000000) (disch := omega) only [go_sem, ↓reduceIte, hs] | with_reducible refine vIf_t ?_ | with_reducible refine vIf_f ?_))
    (refine retK_of ?_; (repeat (first | simp (maxSteps := 2000000) (disch := omega) only [go_sem, ↓reduceIte] | with_reducible refine vIf_t ?_ | with_reducible refine vIf_f ?_)))
    simp [cGt]
  | true =>
    (repeat (first | simp (maxSteps := 2000000) (disch := omega) only [go_sem, ↓reduceIte, hs] | with_reducible refine vIf_t ?_ | with_reducible refine vIf_f ?_))
    (refine vCallX_of ?_; (repeat (first | simp (maxSteps := 2000000) (disch := omega) only [go_sem, ↓reduceIte] | with_reducible refine vIf_t ?_ | with_reducible refine vIf_f ?_)); refine vCall_eq (h2) (by simp (disch := omega) only [go_sem]) rfl (by first | exact Or.inl rfl | exact Or.inr ⟨rfl, rfl⟩ | (apply Or.inr; simp only [go_sem])) ?_; (repeat (first | simp (maxSteps := 2000000) (disch := omega) only [go_sem, ↓reduceIte] | with_reducible refine vIf_t ?_ | with_reducible refine vIf_f ?_)))
    cases hd : sdB a b with
    | false =>
      have ec : rsC s os a b = 2 := by simp [rsC, hs, hd]
      simp only [rsQ, ec]
      (repeat (first | simp (maxSteps := 2000000) (disch := omega) only [go_sem, ↓reduceIte, hd] | with_reducible refine vIf_t ?_ | with_reducible refine vIf_f ?_))
      (refine retK_of ?_; (repeat (first | simp (maxSteps := 2000000) (disch := omega) only [go_sem, ↓reduceIte] | with_reducible refine vIf_t ?_ | with_reducible refine vIf_f ?_)))
      simp [cGt]
    | true =>
      by_cases hl : os.length = a.length
      case neg =>
        have hlb : ((os.length : Int) != (a.length : Int)) = true := by simp; omega
        have ec : rsC s os a b = 2 := by rw [rsC, if_pos hs, if_neg (fun h => hl h.2.1)]
        simp only [rsQ, ec]
        (repeat (first | simp (maxSteps := 2000000) (disch := omega) only [go_sem, ↓reduceIte, hd, hlb] | with_reducible refine vIf_t ?_ | with_reducible refine vIf_f ?_))
        (refine retK_of ?_; (repeat (first | simp (maxSteps := 2000000) (disch := omega) only [go_sem, ↓reduceIte] | with_reducible refine vIf_t ?_ | with_reducible refine vIf_f ?_)))
        simp [cGt]
      have hlb : ((os.length : Int) != (a.length : Int)) = false := by simp; omega
      (repeat (first | simp (maxSteps := 2000000) (disch := omega) only [go_sem, ↓reduceIte, hd, hlb] | with_reducible refine vIf_t ?_ | with_reducible refine vIf_f ?_))
      (refine vCallX_of ?_; (repeat (first | simp (maxSteps := 2000000) (disch := omega) only [go_sem, ↓reduceIte] | with_reducible refine vIf_t ?_ | with_reducible refine vIf_f ?_)); refine vCall_eq (hall) (by simp (disch := omega) only [go_sem]) rfl (by first | exact Or.inl rfl | exact Or.inr ⟨rfl, rfl⟩ | (apply Or.inr; simp only [go_sem])) ?_; (repeat (first | simp (maxSteps := 2000000) (disch := omega) only [go_sem, ↓reduceIte] | with_reducible refine vIf_t ?_ | with_reducible refine vIf_f ?_)))
      cases hob : orB os with
      | false =>
        have hob2 : (os.all fun n => decide (0 ≤ n ∧ n ≤ 2)) = false := hob
        have ec : rsC s os a b = 2 := by rw [rsC, if_pos hs, if_neg (fun h => by rw [hob] at h; simp at h)]
        simp only [rsQ, ec]
        (repeat (first | simp (maxSteps := 2000000) (disch := omega) only [go_sem, ↓reduceIte, hob2] | with_reducible refine vIf_t ?_ | with_reducible refine vIf_f ?_))
        (refine retK_of ?_; (repeat (first | simp (maxSteps := 2000000) (disch := omega) only [go_sem, ↓reduceIte] | with_reducible refine vIf_t ?_ | with_reducible refine vIf_f ?_)))
        simp [cGt]
      | true =>
        have hob2 : (os.all fun n => decide (0 ≤ n ∧ n ≤ 2)) = true := hob
        have ec : rsC s os a b = (sgS s os a b a.length).2 := by rw [rsC, if_pos hs, if_pos ⟨hd, hl, hob⟩]
        have D := sd_ok hd
        have hn := D.n
        have he := D.e
        (repeat (first | simp (maxSteps := 2000000) (disch := omega) only [go_sem, ↓reduceIte, hob2] | with_reducible refine vIf_t ?_ | with_reducible refine vIf_f ?_))
        refine vcLoop_invF (fun k : Nat => k ≤ a.length ∧ (sgS s os a b k).2 = 0) (fun k => ⟨74, 0, [(43, I k), (11, .ptr 0 0), (10, .ref 1 0 k), (3, .sl b.length (ints b)), (2, .sl a.length (ints a)), (4, .ptr 2 0), (41, .sl os.length (ints os)), (42, I os.length)], [some ⟨3, [B (sgS s os a b k).1.op, I (sgS s os a b k).1.ps, I (sgS s os a b k).1.mv]⟩, some ⟨3, cGt (sgL s os a b k)⟩, some ⟨2, [I s.wd, I s.sill]⟩]⟩) (fun k => a.length - k) 0 ⟨by omega, rfl⟩ (by rw [sgK0]; (first | (refine leF_s ?_; ((repeat (first | simp (maxSteps := 2000000) (disch := omega) only [go_sem, ↓reduceIte] | with_reducible refine vIf_t ?_ | with_reducible refine vIf_f ?_)); all_goals (try simp); all_goals (try omega)); done) | (refine leF_p ?_; ((repeat (first | simp (maxSteps := 2000000) (disch := omega) only [go_sem, ↓reduceIte] | with_reducible refine vIf_t ?_ | with_reducible refine vIf_f ?_)); all_goals (try simp); all_goals (try omega)); done))) ?_
        intro k ⟨hk, hz⟩
        have hol := sgL_len s os a b k
        have hos := sgL_succ s os a b k
        (repeat (first | simp (maxSteps := 2000000) (disch := omega) only [go_sem, ↓reduceIte] | with_reducible refine vIf_t ?_ | with_reducible refine vIf_f ?_))
        refine vIf_dec (fun hh => ?_) (fun hh => ?_)
        · have hkl : k < a.length := by omega
          have hg := sgK_ok s os a b k hz
          have hor : 0 ≤ gi os k ∧ gi os k ≤ 2 := of_decide_eq_true (List.all_eq_true.1 hob2 _ (gi_mem os k (by omega)))
          have hst := step_ok s (sgS s os a b k).1 (gi os k) (gi a k) (gi b k) hs hg (D.al k hkl) (D.bl k hkl) hor
          have hsk : sgS s os a b (k + 1) = stpS s (sgS s os a b k).1 (gi os k) (gi a k) (gi b k) := by rw [sgS, if_pos hz]
          rw [← hsk] at hst
          have hstop := sgK_stop s os a b (k + 1) a.length
          generalize hnx : sgS s os a b (k + 1) = nx at *
          generalize sgS s os a b k = nw at *
          unfold Slc.cells Gt.cells at hst
          (repeat (first | simp (maxSteps := 2000000) (disch := omega) only [go_sem, ↓reduceIte] | with_reducible refine vIf_t ?_ | with_reducible refine vIf_f ?_))
          (refine vDraw_tr 17 (.rd 0 (.rd 1 (.rd 2 (.rd 3 (.rd 4 (.rd 5 (.rd 6 (.rd 7 (.rd 8 (.rd 9 (.rd 10 (.alt 11 (.rd 12 (.rd 13 (.rd 14 (.alt 15 (.alt 16 (.done) (.stop)) (.stop))))) (.alt 15 (.alt 11 (.rd 12 (.rd 13 (.rd 14 (.alt 16 (.done) (.stop))))) (.stop)) (.stop)))))))))))))) (fun _ : Unit => True) (fun _ => ⟨74, 0, [(62, I nx.2), (11, .ptr 0 0), (3, .sl b.length (ints b)), (2, .sl a.length (ints a)), (4, .ptr 1 0), (41, .sl os.length (ints os)), (42, I os.length), (43, I k), (10, .ref 2 0 k), (14, .ptr 3 0)], [some ⟨3, [B nw.1.op, I nw.1.ps, I nw.1.mv]⟩, some ⟨2, [I s.wd, I s.sill]⟩, some ⟨3, cGt (sgL s os a b k)⟩, some ⟨3, [B nx.1.op, I nx.1.ps, I nx.1.mv]⟩]⟩) mixed (by kernel_rfl) ?_ ?_)
          · (repeat (first | simp (maxSteps := 2000000) (disch := omega) only [go_sem, ↓reduceIte] | with_reducible refine vIf_t ?_ | with_reducible refine vIf_f ?_))
            repeat' (first | refine And.intro ?_ ?_ | (refine vsCallX_of ?_; (try (repeat (first | simp (maxSteps := 2000000) (disch := omega) only [go_sem, ↓reduceIte] | with_reducible refine vIf_t ?_ | with_reducible refine vIf_f ?_))); refine vCall_eq (hst) (by simp (disch := omega) only [go_sem]) rfl (by first | exact Or.inl rfl | exact Or.inr ⟨rfl, rfl⟩ | (apply Or.inr; simp only [go_sem])) ?_; (try (repeat (first | simp (maxSteps := 2000000) (disch := omega) only [go_sem, ↓reduceIte] | with_reducible refine vIf_t ?_ | with_reducible refine vIf_f ?_)))) | (refine ⟨(), _, Frz.refl _, Or.inr ?_⟩; (repeat (first | simp (maxSteps := 2000000) (disch := omega) only [go_sem, ↓reduceIte] | with_reducible refine vIf_t ?_ | with_reducible refine vIf_f ?_))))
          intro _ _
          simp only [List.drop_succ_cons, List.drop_zero, List.drop_nil]
          (try (repeat (first | simp (maxSteps := 2000000) (disch := omega) only [go_sem, ↓reduceIte] | with_reducible refine vIf_t ?_ | with_reducible refine vIf_f ?_)))
          by_cases hc : nx.2 = 0
          · have hcb : (nx.2 != 0) = false := by simpa using hc
            (repeat (first | simp (maxSteps := 2000000) (disch := omega) only [go_sem, ↓reduceIte, hcb, hol] | with_reducible refine vIf_t ?_ | with_reducible refine vIf_f ?_))
            refine againF (k + 1) ⟨by omega, by rw [hnx]; exact hc⟩ (by omega) ?_
            rw [hnx, hos]
            (first | (refine leF_s ?_; ((repeat (first | simp (maxSteps := 2000000) (disch := omega) only [go_sem, ↓reduceIte] | with_reducible refine vIf_t ?_ | with_reducible refine vIf_f ?_)); all_goals (try simp); all_goals (try omega)); done) | (refine leF_p ?_; ((repeat (first | simp (maxSteps := 2000000) (disch := omega) only [go_sem, ↓reduceIte] | with_reducible refine vIf_t ?_ | with_reducible refine vIf_f ?_)); all_goals (try simp); all_goals (try omega)); done))
          · have hcb : (nx.2 != 0) = true := by simpa using hc
            have ec2 : rsC s os a b = nx.2 := by rw [ec, hstop hc (by omega)]
            simp only [rsQ, ec2, if_neg hc]
            (repeat (first | simp (maxSteps := 2000000) (disch := omega) only [go_sem, ↓reduceIte, hcb] | with_reducible refine vIf_t ?_ | with_reducible refine vIf_f ?_))
            (refine retK_of ?_; (repeat (first | simp (maxSteps := 2000000) (disch := omega) only [go_sem, ↓reduceIte] | with_reducible refine vIf_t ?_ | with_reducible refine vIf_f ?_)))
            try simp [cGt]
        · have hke : k = a.length := by omega
          subst hke
          rw [hz] at ec
          simp only [rsQ, ec, if_true, sgL_len]
          (repeat (first | simp (maxSteps := 2000000) (disch := omega) only [go_sem, ↓reduceIte] | with_reducible refine vIf_t ?_ | with_reducible refine vIf_f ?_))
          (refine retK_of ?_; (repeat (first | simp (maxSteps := 2000000) (disch := omega) only [go_sem, ↓reduceIte] | with_reducible refine vIf_t ?_ | with_reducible refine vIf_f ?_)))
end Go.Proofs.YtpjjjonplikilaaGreat

/- the breach: model, and the walk of one hour on both sides -/
import Derived.Test.YtbgjkjiepkopkaaGreatDoorCtl3
set_option linter.unusedVariables false
set_option linter.unusedSimpArgs false
namespace Go.Proofs.YtbgjkjiepkopkaaGreatDoor
open Go.AG

structure Bre where
  wd : Int
  sl : Int
  wt : Int
  deriving Inhabited, DecidableEq
def Bre.cells (d : Bre) : List V := [.sc (.int .i64 d.wd), .sc (.int .i64 d.sl), .sc (.int .i64 d.wt)]
def cBre (ds : List Bre) : List V := ds.flatMap Bre.cells
def gBre (ds : List Bre) (i : Nat) : Bre := ds.getD i default
theorem gBre_lt (ds : List Bre) (i : Nat) (h : i < ds.length) : gBre ds i = ds[i] := by simp [gBre, h]
theorem gBre_mem (ds : List Bre) (i : Nat) (h : i < ds.length) : gBre ds i ∈ ds := by rw [gBre_lt ds i h]; exact List.getElem_mem h
theorem gBre_take_succ (ds : List Bre) (i : Nat) (h : i < ds.length) : ds.take (i + 1) = ds.take i ++ [gBre ds i] := by rw [List.take_succ_eq_append_getElem h, gBre_lt ds i h]
theorem gBre_set_same (ds : List Bre) (i : Nat) (d : Bre) (h : i < ds.length) : gBre (ds.set i d) i = d := by simp [gBre, h]
theorem gBre_set_ne (ds : List Bre) (i j : Nat) (d : Bre) (h : i ≠ j) : gBre (ds.set i d) j = gBre ds j := by simp [gBre, h]
theorem gBre_app_l (xs ys : List Bre) (i : Nat) (h : i < xs.length) : gBre (xs ++ ys) i = gBre xs i := by simp [gBre, List.getElem?_append_left h]
theorem gBre_app_r (xs ys : List Bre) (i : Nat) (h : xs.length ≤ i) : gBre (xs ++ ys) i = gBre ys (i - xs.length) := by simp [gBre, List.getElem?_append_right h]
theorem cBre_eq (ds : List Bre) : cBre ds = (ds.map Bre.cells).flatten := by rw [cBre, List.flatMap_def]
@[go_sem] theorem length_cBre (ds : List Bre) : (cBre ds).length = ds.length * 3 := (rsLen Bre.cells 3 (fun _ => rfl) ds)
@[go_sem] theorem cBre_nil : cBre [] = [] := rfl
@[go_sem] theorem cBre_append (xs ys : List Bre) : cBre xs ++ cBre ys = cBre (xs ++ ys) := by simp [cBre]
theorem cBre_one (d : Bre) : cBre [d] = d.cells := by simp [cBre]
@[go_sem] theorem cBre_snoc (xs : List Bre) (wd : Int) (sl : Int) (wt : Int) : cBre xs ++ [.sc (.int .i64 wd), .sc (.int .i64 sl), .sc (.int .i64 wt)] = cBre (xs ++ [⟨wd, sl, wt⟩]) := by simp [cBre, Bre.cells]
@[go_sem] theorem cBre_take (ds : List Bre) (n : Nat) : (cBre ds).take (n * 3) = cBre (ds.take n) := rsTake Bre.cells 3 (fun _ => rfl) ds n
@[go_sem] theorem cBre_take_all (ds : List Bre) (n : Nat) (h : ds.length * 3 ≤ n) : (cBre ds).take n = cBre ds := List.take_of_length_le (by rw [length_cBre]; exact h)
@[go_sem] theorem cBre_drop (ds : List Bre) (n : Nat) : (cBre ds).drop (n * 3) = cBre (ds.drop n) := rsDrop Bre.cells 3 (fun _ => rfl) ds n
@[go_sem high] theorem vPart_cBre (ds : List Bre) (i : Nat) (K : V → Prop) : vPart true 3 (cBre ds) (i * 3) K = grd (i < ds.length) (K (.agg [.sc (.int .i64 (gBre ds i).wd), .sc (.int .i64 (gBre ds i).sl), .sc (.int .i64 (gBre ds i).wt)])) := rsPart Bre.cells 3 (fun _ => rfl) (by omega) ds i K
@[go_sem] theorem vAt_cBre_0 (ds : List Bre) (i : Nat) (K : V → Prop) : vAt (cBre ds) (i * 3) K = grd (i < ds.length) (K (.sc (.int .i64 (gBre ds i).wd))) := rsAt Bre.cells 3 (fun _ => rfl) ds i 0 (by omega) (fun d => .sc (.int .i64 d.wd)) (fun _ => rfl) K
@[go_sem] theorem wr_cBre_0 (ds : List Bre) (i : Nat) (x : Int) (h : i < ds.length) : wr (cBre ds) (i * 3) [.sc (.int .i64 x)] = cBre (ds.set i {gBre ds i with wd := x}) := rsWr Bre.cells 3 (fun _ => rfl) ds i 0 (by omega) h _ _ rfl
@[go_sem] theorem vAt_cBre_1 (ds : List Bre) (i : Nat) (K : V → Prop) : vAt (cBre ds) (i * 3 + 1) K = grd (i < ds.length) (K (.sc (.int .i64 (gBre ds i).sl))) := rsAt Bre.cells 3 (fun _ => rfl) ds i 1 (by omega) (fun d => .sc (.int .i64 d.sl)) (fun _ => rfl) K
@[go_sem] theorem wr_cBre_1 (ds : List Bre) (i : Nat) (x : Int) (h : i < ds.length) : wr (cBre ds) (i * 3 + 1) [.sc (.int .i64 x)] = cBre (ds.set i {gBre ds i with sl := x}) := rsWr Bre.cells 3 (fun _ => rfl) ds i 1 (by omega) h _ _ rfl
@[go_sem] theorem vAt_cBre_2 (ds : List Bre) (i : Nat) (K : V → Prop) : vAt (cBre ds) (i * 3 + 2) K = grd (i < ds.length) (K (.sc (.int .i64 (gBre ds i).wt))) := rsAt Bre.cells 3 (fun _ => rfl) ds i 2 (by omega) (fun d => .sc (.int .i64 d.wt)) (fun _ => rfl) K
@[go_sem] theorem wr_cBre_2 (ds : List Bre) (i : Nat) (x : Int) (h : i < ds.length) : wr (cBre ds) (i * 3 + 2) [.sc (.int .i64 x)] = cBre (ds.set i {gBre ds i with wt := x}) := rsWr Bre.cells 3 (fun _ => rfl) ds i 2 (by omega) h _ _ rfl
@[go_sem] theorem wr_cBre_0_set (ds : List Bre) (i i0 : Nat) (d : Bre) (x : Int) (h : i < ds.length) : wr (cBre (ds.set i0 d)) (i * 3) [.sc (.int .i64 x)] = cBre ((ds.set i0 d).set i {gBre (ds.set i0 d) i with wd := x}) := wr_cBre_0 _ _ _ (by rw [List.length_set]; exact h)
@[go_sem] theorem wr_cBre_1_set (ds : List Bre) (i i0 : Nat) (d : Bre) (x : Int) (h : i < ds.length) : wr (cBre (ds.set i0 d)) (i * 3 + 1) [.sc (.int .i64 x)] = cBre ((ds.set i0 d).set i {gBre (ds.set i0 d) i with sl := x}) := wr_cBre_1 _ _ _ (by rw [List.length_set]; exact h)
@[go_sem] theorem wr_cBre_2_set (ds : List Bre) (i i0 : Nat) (d : Bre) (x : Int) (h : i < ds.length) : wr (cBre (ds.set i0 d)) (i * 3 + 2) [.sc (.int .i64 x)] = cBre ((ds.set i0 d).set i {gBre (ds.set i0 d) i with wt := x}) := wr_cBre_2 _ _ _ (by rw [List.length_set]; exact h)
attribute [go_sem] gBre_set_same
@[go_sem] theorem wr_cBre_all (ds : List Bre) (i : Nat) (wd : Int) (sl : Int) (wt : Int) (h : i < ds.length) : wr (cBre ds) (i * 3) [.sc (.int .i64 wd), .sc (.int .i64 sl), .sc (.int .i64 wt)] = cBre (ds.set i ⟨wd, sl, wt⟩) := rsWrAll Bre.cells 3 (fun _ => rfl) ds i h ⟨wd, sl, wt⟩
@[go_sem] theorem imm_cBre (ds : List Bre) : V.immL (cBre ds) = true := by induction ds with | nil => rfl | cons x xs ih => exact ih
@[go_sem] theorem one_cBre (ds : List Bre) : V.oneL (cBre ds) = true := by induction ds with | nil => rfl | cons x xs ih => exact ih
@[go_sem] theorem noref_cBre (ds : List Bre) : V.norefL (cBre ds) = true := by induction ds with | nil => rfl | cons x xs ih => exact ih
@[go_sem] theorem flat_cBre (ds : List Bre) : V.flatL (cBre ds) = true := by induction ds with | nil => rfl | cons x xs ih => exact ih
@[go_sem] theorem kill_cBre (p : Nat → Bool) (ds : List Bre) : V.killL p (cBre ds) = cBre ds := killL_noref p _ (noref_cBre ds)
@[go_sem] theorem frz_cBre (f : Nat → Option Ob) (ds : List Bre) : V.frzL f (cBre ds) = cBre ds := frzL_noref f _ (noref_cBre ds)
@[go_sem] theorem ren_cBre (g : Nat → Nat) (ds : List Bre) : V.renL g (cBre ds) = cBre ds := by induction ds with | nil => rfl | cons x xs ih => exact congrArg (x.cells ++ ·) ih
@[go_sem] theorem reps_cBre (n : Nat) : reps n [V.sc (.int .i64 0), V.sc (.int .i64 0), V.sc (.int .i64 0)] = cBre (List.replicate n ⟨0, 0, 0⟩) := rsReps Bre.cells n ⟨0, 0, 0⟩
@[go_sem] theorem map_cBre_inj (xs ys : List Bre) : (cBre xs = cBre ys) = (xs = ys) := propext ⟨rsInj Bre.cells 3 (fun _ => rfl) (by omega) (fun a b h => by cases a; cases b; simpa [Bre.cells] using h) xs ys, fun h => by rw [h]⟩
@[go_sem] theorem cBre_rep0 (d : Bre) : cBre (List.replicate 0 d) = [] := rfl
@[go_sem] theorem wr_cBre_rep1 (d : Bre) (wd : Int) (sl : Int) (wt : Int) : wr (cBre (List.replicate 1 d)) 0 [.sc (.int .i64 wd), .sc (.int .i64 sl), .sc (.int .i64 wt)] = cBre [⟨wd, sl, wt⟩] := rfl
@[go_sem] theorem cBre_take1 (d : Bre) : (cBre [d]).take 3 = cBre [d] := rfl
/-! the level of a volume is there -/
theorem lv_ex {c : Cv} (f : CvF c) {v : Int} (n : Nat) : ∀ y, y = lo' c + n → y ≤ hi' c → v ≤ vlm c y → ∃ x, LvOf c v x := by
  induction n with
  | zero => intro y hy h1 h2; exact ⟨y, by omega, h1, h2, fun h => by omega⟩
  | succ n ih =>
    intro y hy h1 h2
    by_cases h : v ≤ vlm c (y - 1)
    · exact ih (y - 1) (by omega) (by omega) h
    · exact ⟨y, by omega, h1, h2, fun _ => by omega⟩
theorem lvx_of {c : Cv} (f : CvF c) {v : Int} (hv : v ≤ gi c.vl (c.lv.length - 1)) : LvOf c v (lvx c v) := by
  have hl := f.lohi
  obtain ⟨x, hx⟩ := lv_ex f (v := v) (hi' c - lo' c).toNat (hi' c) (by omega) (Int.le_refl _) (by rw [vlm_hi f]; exact hv)
  rw [lvx_eq f hx]; exact hx
theorem lvx_mono {c : Cv} (f : CvF c) {v u : Int} (h : v ≤ u) (hu : u ≤ gi c.vl (c.lv.length - 1)) : lvx c v ≤ lvx c u := by
  have h1 := lvx_of f (v := v) (by omega)
  have h2 := lvx_of f hu
  apply Int.not_lt.1
  intro hc
  have l1 := h1.lo; have l2 := h2.lo; have u1 := h1.hi; have g2 := h2.ge
  have := h1.lt (by omega)
  have := vlm_mono f (lvx c u) (lvx c v - 1) l2 (by omega) (by omega)
  omega
/-! one hour -/
noncomputable def brM (c : Cv) (b : Bre) : Int := if b.sl < lvx c b.wt then lvx c b.wt else b.sl
noncomputable def brHd (c : Cv) (b : Bre) (o : Int) : Int := if 0 < o - brM c b then o - brM c b else 0
noncomputable def brTo (c : Cv) (o : Int) : Int := if hi' c < o then hi' c else o
noncomputable def brMs (c : Cv) (b : Bre) (o : Int) : Int := vlm c (brTo c o) - b.wt
noncomputable def brIn (c : Cv) (b : Bre) (o : Int) : Int := if brHd c b o = 0 then 0 else if brMs c b o < 10 * b.wd * brHd c b o then brMs c b o else 10 * b.wd * brHd c b o
noncomputable def brW (c : Cv) (b : Bre) (o : Int) : Int := if b.wd = 0 then 0 else b.wd + (brHd c b o + 9) / 10
noncomputable def brC (c : Cv) (b : Bre) (o n : Int) : Int := if brW c b o < n then brW c b o else n
noncomputable def brS (c : Cv) (b : Bre) (o n : Int) : Bre := ⟨if brW c b o - brC c b o n < 1000 then brW c b o - brC c b o n else 1000, b.sl, b.wt + brIn c b o⟩
structure BrF (c : Cv) (b : Bre) : Prop where
  f : CvF c
  wd : 0 ≤ b.wd ∧ b.wd ≤ 1000
  sl : -2000 ≤ b.sl ∧ b.sl ≤ 2000
  wt : 0 ≤ b.wt ∧ b.wt ≤ gi c.vl (c.lv.length - 1)
theorem BrF.lv {c : Cv} {b : Bre} (h : BrF c b) : lo' c ≤ lvx c b.wt ∧ lvx c b.wt ≤ hi' c ∧ -2000 ≤ lvx c b.wt ∧ lvx c b.wt ≤ 2000 := by
  have h1 := lvx_of h.f h.wt.2
  have := h.f.lohi
  have := h1.lo; have := h1.hi
  omega
theorem brHd_bd {c : Cv} {b : Bre} (h : BrF c b) (o : Int) (ho : -2000 ≤ o ∧ o ≤ 2000) : 0 ≤ brHd c b o ∧ brHd c b o ≤ 4000 := by
  have := h.lv
  have := h.sl
  unfold brHd brM; split <;> (try split at *) <;> omega
theorem brHd_pos {c : Cv} {b : Bre} (h : BrF c b) {o : Int} (hh : brHd c b o ≠ 0) : lvx c b.wt < o := by
  unfold brHd brM at hh
  split at hh <;> (try split at *) <;> omega
theorem brTo_in {c : Cv} {b : Bre} (h : BrF c b) {o : Int} (hh : brHd c b o ≠ 0) : inC c (brTo c o) ∧ lvx c b.wt ≤ brTo c o ∧ brTo c o ≤ hi' c := by
  have h1 := brHd_pos h hh
  have h2 := h.lv
  have h3 := h.f.lohi
  unfold inC brTo
  split <;> omega
theorem brMs_bd {c : Cv} {b : Bre} (h : BrF c b) {o : Int} (hh : brHd c b o ≠ 0) : 0 ≤ brMs c b o ∧ b.wt + brMs c b o ≤ gi c.vl (c.lv.length - 1) := by
  obtain ⟨h1, h2, h3⟩ := brTo_in h hh
  have h4 := lvx_of h.f h.wt.2
  have h5 := vlm_mono h.f (lvx c b.wt) (brTo c o) h4.lo h2 h3
  have h6 := h4.ge
  have h7 := vlm_mono h.f (brTo c o) (hi' c) h1.1 h3 (Int.le_refl _)
  rw [vlm_hi h.f] at h7
  unfold brMs
  omega
theorem brP_bd {c : Cv} {b : Bre} (h : BrF c b) (o : Int) (ho : -2000 ≤ o ∧ o ≤ 2000) : 0 ≤ 10 * b.wd * brHd c b o ∧ 10 * b.wd * brHd c b o ≤ 40000000 := by
  have h1 := brHd_bd h o ho
  have h2 := h.wd
  exact ⟨Int.mul_nonneg (by omega) h1.1, by
    have := Int.mul_le_mul (show 10 * b.wd ≤ 10000 by omega) h1.2 h1.1 (by omega)
    omega⟩
theorem brIn_bd {c : Cv} {b : Bre} (h : BrF c b) (o : Int) (ho : -2000 ≤ o ∧ o ≤ 2000) : 0 ≤ brIn c b o ∧ b.wt + brIn c b o ≤ gi c.vl (c.lv.length - 1) := by
  have h1 := brP_bd h o ho
  have h2 := h.wt
  unfold brIn
  split
  · omega
  · rename_i hh
    have h3 := brMs_bd h hh
    split <;> omega
theorem brW_bd {c : Cv} {b : Bre} (h : BrF c b) (o : Int) (ho : -2000 ≤ o ∧ o ≤ 2000) : 0 ≤ brW c b o ∧ brW c b o ≤ 1401 ∧ b.wd ≤ brW c b o := by
  have h1 := brHd_bd h o ho
  have h2 := h.wd
  unfold brW
  split <;> omega
theorem brC_bd {c : Cv} {b : Bre} (h : BrF c b) (o n : Int) (ho : -2000 ≤ o ∧ o ≤ 2000) (hn : 0 ≤ n) : 0 ≤ brC c b o n ∧ brC c b o n ≤ n ∧ brC c b o n ≤ brW c b o := by
  have h1 := brW_bd h o ho
  unfold brC
  split <;> omega
theorem brS_f {c : Cv} {b : Bre} (h : BrF c b) (o n : Int) (ho : -2000 ≤ o ∧ o ≤ 2000) (hn : 0 ≤ n) : BrF c (brS c b o n) := by
  have h1 := brIn_bd h o ho
  have h2 := brC_bd h o n ho hn
  have h3 := h.wt
  refine ⟨h.f, ?_, h.sl, ?_⟩
  · simp only [brS]; split <;> omega
  · simp only [brS]; omega
/-! the walk on the program's side -/
theorem ediv_bd (n d : Int) (hd : 0 < d) (hn : -9223372036854775806 ≤ n ∧ n ≤ 9223372036854775806) : -9223372036854775806 ≤ n / d ∧ n / d ≤ 9223372036854775806 := by
  refine ⟨Int.le_ediv_of_mul_le hd ?_, ?_⟩
  · have : -9223372036854775806 * d ≤ -9223372036854775806 * 1 := Int.mul_le_mul_of_nonpos_left (by omega) (by omega)
    omega
  · by_cases h : 0 ≤ n
    · have := Int.ediv_le_self (a := n) d h; omega
    · have := Int.ediv_neg_of_neg_of_pos (a := n) (b := d) (by omega) hd; omega
theorem ceil_ok (n d : Int) (hd : 0 < d) (hn : -9223372036854775806 ≤ n ∧ n ≤ 9223372036854775806) : ACalls Tryz.prog 38 [I n, I d] [] (fun r o => r = I (0 - ((0 - n) / d)) ∧ o = []) := by
  refine ACalls.of_vc Tryz.func38 rfl (by decide) 10 rfl [.tmp 4] rfl (by simp) ?_
  have h1 := ediv_bd (0 - n) d hd (by omega)
  (repeat (first | simp (maxSteps := 2000000) (disch := omega) only [go_sem, ↓reduceIte, Nat.reduceEqDiff, Nat.reduceAdd, Nat.reduceMul, Nat.reduceSub, Int.reduceToNat, Int.reduceAdd, Int.reduceSub, Int.reduceMul, Int.reduceNeg] | with_reducible refine vIf_t ?_ | with_reducible refine vIf_f ?_))
  (refine vCallX_of ?_; (repeat (first | simp (maxSteps := 2000000) (disch := omega) only [go_sem, ↓reduceIte, Nat.reduceEqDiff, Nat.reduceAdd, Nat.reduceMul, Nat.reduceSub, Int.reduceToNat, Int.reduceAdd, Int.reduceSub, Int.reduceMul, Int.reduceNeg] | with_reducible refine vIf_t ?_ | with_reducible refine vIf_f ?_)); refine vCall_eq (floorDiv_ok (0 - n) d hd (by omega)) (by simp (disch := omega) only [go_sem, Nat.reduceAdd]) rfl (by first | exact Or.inl rfl | exact Or.inr ⟨rfl, rfl⟩ | (apply Or.inr; simp only [go_sem])) ?_; (repeat (first | simp (maxSteps := 2000000) (disch := omega) only [go_sem, ↓reduceIte, Nat.reduceEqDiff, Nat.reduceAdd, Nat.reduceMul, Nat.reduceSub, Int.reduceToNat, Int.reduceAdd, Int.reduceSub, Int.reduceMul, Int.reduceNeg] | with_reducible refine vIf_t ?_ | with_reducible refine vIf_f ?_)))
  (refine retK_of ?_; (repeat (first | simp (maxSteps := 2000000) (disch := omega) only [go_sem, ↓reduceIte, Nat.reduceEqDiff, Nat.reduceAdd, Nat.reduceMul, Nat.reduceSub, Int.reduceToNat, Int.reduceAdd, Int.reduceSub, Int.reduceMul, Int.reduceNeg] | with_reducible refine vIf_t ?_ | with_reducible refine vIf_f ?_)))
theorem brHead_ok (c : Cv) (b : Bre) (o : Int) (h : BrF c b) (ho : -2000 ≤ o ∧ o ≤ 2000) : ACalls Tryz.prog 32 [.agg b.cells, .agg c.cells, I o] [] (fun r o' => r = I (brHd c b o) ∧ o' = []) := by
  refine ACalls.of_vc Tryz.func32 rfl (by decide) 17 rfl [.tmp 6] rfl (by simp) ?_
  have hl := levx_ok c b.wt h.f h.wt.2
  have h1 := h.lv
  have h2 := h.sl
  have hm : -2000 ≤ brM c b ∧ brM c b ≤ 2000 := by unfold brM; split <;> omega
  have e : (if b.sl < lvx c b.wt then lvx c b.wt else b.sl) = brM c b := rfl
  unfold Cv.cells Bre.cells at *
  (repeat (first | simp (maxSteps := 2000000) (disch := omega) only [go_sem, ↓reduceIte, Nat.reduceEqDiff, Nat.reduceAdd, Nat.reduceMul, Nat.reduceSub, Int.reduceToNat, Int.reduceAdd, Int.reduceSub, Int.reduceMul, Int.reduceNeg] | with_reducible refine vIf_t ?_ | with_reducible refine vIf_f ?_))
  (refine vDraw_sch 8 [(0, false), (1, false), (2, false), (3, false), (4, false), (5, false), (6, false), (7, false)] mixed (by kernel_rfl) ?_; simp only [List.cons_append, List.nil_append, List.map_cons, List.map_nil, nthO_zero, nthO_succ, List.drop_succ_cons, List.drop_zero, List.drop_nil]; (repeat (first | simp (maxSteps := 2000000) (disch := omega) only [go_sem, ↓reduceIte, Nat.reduceEqDiff, Nat.reduceAdd, Nat.reduceMul, Nat.reduceSub, Int.reduceToNat, Int.reduceAdd, Int.reduceSub, Int.reduceMul, Int.reduceNeg] | with_reducible refine vIf_t ?_ | with_reducible refine vIf_f ?_)))
  (refine vsCallX_of ?_; (try (repeat (first | simp (maxSteps := 2000000) (disch := omega) only [go_sem, ↓reduceIte, Nat.reduceEqDiff, Nat.reduceAdd, Nat.reduceMul, Nat.reduceSub, Int.reduceToNat, Int.reduceAdd, Int.reduceSub, Int.reduceMul, Int.reduceNeg] | with_reducible refine vIf_t ?_ | with_reducible refine vIf_f ?_))); refine vCall_eq (hl) (by simp (disch := omega) only [go_sem, Nat.reduceAdd]) rfl (by first | exact Or.inl rfl | exact Or.inr ⟨rfl, rfl⟩ | (apply Or.inr; simp only [go_sem])) ?_; (try (repeat (first | simp (maxSteps := 2000000) (disch := omega) only [go_sem, ↓reduceIte, Nat.reduceEqDiff, Nat.reduceAdd, Nat.reduceMul, Nat.reduceSub, Int.reduceToNat, Int.reduceAdd, Int.reduceSub, Int.reduceMul, Int.reduceNeg] | with_reducible refine vIf_t ?_ | with_reducible refine vIf_f ?_))))
  (try (repeat (first | simp (maxSteps := 2000000) (disch := omega) only [go_sem, ↓reduceIte, Nat.reduceEqDiff, Nat.reduceAdd, Nat.reduceMul, Nat.reduceSub, Int.reduceToNat, Int.reduceAdd, Int.reduceSub, Int.reduceMul, Int.reduceNeg, e] | with_reducible refine vIf_t ?_ | with_reducible refine vIf_f ?_)))
  (refine retK_of ?_; (repeat (first | simp (maxSteps := 2000000) (disch := omega) only [go_sem, ↓reduceIte, Nat.reduceEqDiff, Nat.reduceAdd, Nat.reduceMul, Nat.reduceSub, Int.reduceToNat, Int.reduceAdd, Int.reduceSub, Int.reduceMul, Int.reduceNeg] | with_reducible refine vIf_t ?_ | with_reducible refine vIf_f ?_)))
  first | rfl | (unfold brHd; rfl) | skip
theorem brIn_ok (c : Cv) (b : Bre) (o : Int) (h : BrF c b) (ho : -2000 ≤ o ∧ o ≤ 2000) : ACalls Tryz.prog 33 [.agg b.cells, .agg c.cells, I o] [] (fun r o' => r = I (brIn c b o) ∧ o' = []) := by
  refine ACalls.of_vc Tryz.func33 rfl (by decide) 32 rfl [.tmp 6] rfl (by simp) ?_
  have hh := brHead_ok c b o h ho
  have f := h.f
  have hla := last_ok c.lv (by have := f.n2; have := f.n12; omega)
  have hbd := brHd_bd h o ho
  have hp := brP_bd h o ho
  have hwd := h.wd
  have hwt := h.wt
  have hub := f.vb (c.lv.length - 1) (by have := f.n2; omega)
  unfold Cv.cells Bre.cells at *
  (repeat (first | simp (maxSteps := 2000000) (disch := omega) only [go_sem, ↓reduceIte, Nat.reduceEqDiff, Nat.reduceAdd, Nat.reduceMul, Nat.reduceSub, Int.reduceToNat, Int.reduceAdd, Int.reduceSub, Int.reduceMul, Int.reduceNeg] | with_reducible refine vIf_t ?_ | with_reducible refine vIf_f ?_))
  (refine vCallX_of ?_; (repeat (first | simp (maxSteps := 2000000) (disch := omega) only [go_sem, ↓reduceIte, Nat.reduceEqDiff, Nat.reduceAdd, Nat.reduceMul, Nat.reduceSub, Int.reduceToNat, Int.reduceAdd, Int.reduceSub, Int.reduceMul, Int.reduceNeg] | with_reducible refine vIf_t ?_ | with_reducible refine vIf_f ?_)); refine vCall_eq (hh) (by simp (disch := omega) only [go_sem, Nat.reduceAdd]) rfl (by first | exact Or.inl rfl | exact Or.inr ⟨rfl, rfl⟩ | (apply Or.inr; simp only [go_sem])) ?_; (repeat (first | simp (maxSteps := 2000000) (disch := omega) only [go_sem, ↓reduceIte, Nat.reduceEqDiff, Nat.reduceAdd, Nat.reduceMul, Nat.reduceSub, Int.reduceToNat, Int.reduceAdd, Int.reduceSub, Int.reduceMul, Int.reduceNeg] | with_reducible refine vIf_t ?_ | with_reducible refine vIf_f ?_)))
  refine vIf_beq (fun h1 => ?_) (fun h1 => ?_)
  · (repeat (first | simp (maxSteps := 2000000) (disch := omega) only [go_sem, ↓reduceIte, Nat.reduceEqDiff, Nat.reduceAdd, Nat.reduceMul, Nat.reduceSub, Int.reduceToNat, Int.reduceAdd, Int.reduceSub, Int.reduceMul, Int.reduceNeg] | with_reducible refine vIf_t ?_ | with_reducible refine vIf_f ?_))
    (refine retK_of ?_; (repeat (first | simp (maxSteps := 2000000) (disch := omega) only [go_sem, ↓reduceIte, Nat.reduceEqDiff, Nat.reduceAdd, Nat.reduceMul, Nat.reduceSub, Int.reduceToNat, Int.reduceAdd, Int.reduceSub, Int.reduceMul, Int.reduceNeg] | with_reducible refine vIf_t ?_ | with_reducible refine vIf_f ?_)))
    unfold brIn; rw [if_pos h1]
  · have hv := volume_ok c (brTo c o) f (brTo_in h h1).1
    have hms := brMs_bd h h1
    have e1 : (if gi c.lv (c.lv.length - 1) < o then gi c.lv (c.lv.length - 1) else o) = brTo c o := rfl
    have e2 : vlm c (brTo c o) - b.wt = brMs c b o := rfl
    unfold Cv.cells at hv
    (repeat (first | simp (maxSteps := 2000000) (disch := omega) only [go_sem, ↓reduceIte, Nat.reduceEqDiff, Nat.reduceAdd, Nat.reduceMul, Nat.reduceSub, Int.reduceToNat, Int.reduceAdd, Int.reduceSub, Int.reduceMul, Int.reduceNeg] | with_reducible refine vIf_t ?_ | with_reducible refine vIf_f ?_))
    (refine vDraw_sch 9 [(0, false), (1, false), (2, false), (3, false), (7, false), (8, false), (4, false), (5, false), (6, false)] mixed (by kernel_rfl) ?_; simp only [List.cons_append, List.nil_append, List.map_cons, List.map_nil, nthO_zero, nthO_succ, List.drop_succ_cons, List.drop_zero, List.drop_nil]; (repeat (first | simp (maxSteps := 2000000) (disch := omega) only [go_sem, ↓reduceIte, Nat.reduceEqDiff, Nat.reduceAdd, Nat.reduceMul, Nat.reduceSub, Int.reduceToNat, Int.reduceAdd, Int.reduceSub, Int.reduceMul, Int.reduceNeg] | with_reducible refine vIf_t ?_ | with_reducible refine vIf_f ?_)))
    (refine vsCallX_of ?_; (try (repeat (first | simp (maxSteps := 2000000) (disch := omega) only [go_sem, ↓reduceIte, Nat.reduceEqDiff, Nat.reduceAdd, Nat.reduceMul, Nat.reduceSub, Int.reduceToNat, Int.reduceAdd, Int.reduceSub, Int.reduceMul, Int.reduceNeg] | with_reducible refine vIf_t ?_ | with_reducible refine vIf_f ?_))); refine vCall_eq (hla) (by simp (disch := omega) only [go_sem, Nat.reduceAdd]) rfl (by first | exact Or.inl rfl | exact Or.inr ⟨rfl, rfl⟩ | (apply Or.inr; simp only [go_sem])) ?_; (try (repeat (first | simp (maxSteps := 2000000) (disch := omega) only [go_sem, ↓reduceIte, Nat.reduceEqDiff, Nat.reduceAdd, Nat.reduceMul, Nat.reduceSub, Int.reduceToNat, Int.reduceAdd, Int.reduceSub, Int.reduceMul, Int.reduceNeg] | with_reducible refine vIf_t ?_ | with_reducible refine vIf_f ?_))))
    (try (repeat (first | simp (maxSteps := 2000000) (disch := omega) only [go_sem, ↓reduceIte, Nat.reduceEqDiff, Nat.reduceAdd, Nat.reduceMul, Nat.reduceSub, Int.reduceToNat, Int.reduceAdd, Int.reduceSub, Int.reduceMul, Int.reduceNeg, e1] | with_reducible refine vIf_t ?_ | with_reducible refine vIf_f ?_)))
    (refine vsCallX_of ?_; (try (repeat (first | simp (maxSteps := 2000000) (disch := omega) only [go_sem, ↓reduceIte, Nat.reduceEqDiff, Nat.reduceAdd, Nat.reduceMul, Nat.reduceSub, Int.reduceToNat, Int.reduceAdd, Int.reduceSub, Int.reduceMul, Int.reduceNeg] | with_reducible refine vIf_t ?_ | with_reducible refine vIf_f ?_))); refine vCall_eq (hv) (by simp (disch := omega) only [go_sem, Nat.reduceAdd]) rfl (by first | exact Or.inl rfl | exact Or.inr ⟨rfl, rfl⟩ | (apply Or.inr; simp only [go_sem])) ?_; (try (repeat (first | simp (maxSteps := 2000000) (disch := omega) only [go_sem, ↓reduceIte, Nat.reduceEqDiff, Nat.reduceAdd, Nat.reduceMul, Nat.reduceSub, Int.reduceToNat, Int.reduceAdd, Int.reduceSub, Int.reduceMul, Int.reduceNeg] | with_reducible refine vIf_t ?_ | with_reducible refine vIf_f ?_))))
    (try (repeat (first | simp (maxSteps := 2000000) (disch := omega) only [go_sem, ↓reduceIte, Nat.reduceEqDiff, Nat.reduceAdd, Nat.reduceMul, Nat.reduceSub, Int.reduceToNat, Int.reduceAdd, Int.reduceSub, Int.reduceMul, Int.reduceNeg, e2] | with_reducible refine vIf_t ?_ | with_reducible refine vIf_f ?_)))
    (refine retK_of ?_; (repeat (first | simp (maxSteps := 2000000) (disch := omega) only [go_sem, ↓reduceIte, Nat.reduceEqDiff, Nat.reduceAdd, Nat.reduceMul, Nat.reduceSub, Int.reduceToNat, Int.reduceAdd, Int.reduceSub, Int.reduceMul, Int.reduceNeg] | with_reducible refine vIf_t ?_ | with_reducible refine vIf_f ?_)))
    unfold brIn; rw [if_neg h1]
set_option maxHeartbeats 1000000 in
theorem brStep_ok (c : Cv) (b : Bre) (o n : Int) (h : BrF c b) (ho : -2000 ≤ o ∧ o ≤ 2000) (hn : 0 ≤ n ∧ n ≤ 1000) : ACalls Tryz.prog 23 [.agg b.cells, .agg c.cells, I o, I n] [] (fun r o' => r = .tup [.agg (brS c b o n).cells, I (brC c b o n)] ∧ o' = []) := by
  refine ACalls.of_vc Tryz.func23 rfl (by decide) 47 rfl [.cell 8 28, .tmp 9] rfl (by simp) ?_
  have hh := brHead_ok c b o h ho
  have hi := brIn_ok c b o h ho
  have hbd := brHd_bd h o ho
  have hib := brIn_bd h o ho
  have hwb := brW_bd h o ho
  have hcb := brC_bd h o n ho hn.1
  have hwd := h.wd
  have hwt := h.wt
  have hub := h.f.vb (c.lv.length - 1) (by have := h.f.n2; omega)
  have hce := ceil_ok (brHd c b o) 10 (by omega) (by omega)
  rw [show 0 - (0 - (brHd c b o)) / 10 = (brHd c b o + 9) / 10 by omega] at hce
  unfold Cv.cells Bre.cells at *
  (repeat (first | simp (maxSteps := 2000000) (disch := omega) only [go_sem, ↓reduceIte, Nat.reduceEqDiff, Nat.reduceAdd, Nat.reduceMul, Nat.reduceSub, Int.reduceToNat, Int.reduceAdd, Int.reduceSub, Int.reduceMul, Int.reduceNeg] | with_reducible refine vIf_t ?_ | with_reducible refine vIf_f ?_))
  (refine vDraw_sch 7 [(0, false), (1, false), (2, false), (4, false), (5, false), (6, false), (3, false)] mixed (by kernel_rfl) ?_; simp only [List.cons_append, List.nil_append, List.map_cons, List.map_nil, nthO_zero, nthO_succ, List.drop_succ_cons, List.drop_zero, List.drop_nil]; (repeat (first | simp (maxSteps := 2000000) (disch := omega) only [go_sem, ↓reduceIte, Nat.reduceEqDiff, Nat.reduceAdd, Nat.reduceMul, Nat.reduceSub, Int.reduceToNat, Int.reduceAdd, Int.reduceSub, Int.reduceMul, Int.reduceNeg] | with_reducible refine vIf_t ?_ | with_reducible refine vIf_f ?_)))
  (refine vsCallX_of ?_; (try (repeat (first | simp (maxSteps := 2000000) (disch := omega) only [go_sem, ↓reduceIte, Nat.reduceEqDiff, Nat.reduceAdd, Nat.reduceMul, Nat.reduceSub, Int.reduceToNat, Int.reduceAdd, Int.reduceSub, Int.reduceMul, Int.reduceNeg] | with_reducible refine vIf_t ?_ | with_reducible refine vIf_f ?_))); refine vCall_eq (hh) (by simp (disch := omega) only [go_sem, Nat.reduceAdd]) rfl (by first | exact Or.inl rfl | exact Or.inr ⟨rfl, rfl⟩ | (apply Or.inr; simp only [go_sem])) ?_; (try (repeat (first | simp (maxSteps := 2000000) (disch := omega) only [go_sem, ↓reduceIte, Nat.reduceEqDiff, Nat.reduceAdd, Nat.reduceMul, Nat.reduceSub, Int.reduceToNat, Int.reduceAdd, Int.reduceSub, Int.reduceMul, Int.reduceNeg] | with_reducible refine vIf_t ?_ | with_reducible refine vIf_f ?_))))
  (refine vCallX_of ?_; (repeat (first | simp (maxSteps := 2000000) (disch := omega) only [go_sem, ↓reduceIte, Nat.reduceEqDiff, Nat.reduceAdd, Nat.reduceMul, Nat.reduceSub, Int.reduceToNat, Int.reduceAdd, Int.reduceSub, Int.reduceMul, Int.reduceNeg] | with_reducible refine vIf_t ?_ | with_reducible refine vIf_f ?_)); refine vCall_eq (hi) (by simp (disch := omega) only [go_sem, Nat.reduceAdd]) rfl (by first | exact Or.inl rfl | exact Or.inr ⟨rfl, rfl⟩ | (apply Or.inr; simp only [go_sem])) ?_; (repeat (first | simp (maxSteps := 2000000) (disch := omega) only [go_sem, ↓reduceIte, Nat.reduceEqDiff, Nat.reduceAdd, Nat.reduceMul, Nat.reduceSub, Int.reduceToNat, Int.reduceAdd, Int.reduceSub, Int.reduceMul, Int.reduceNeg] | with_reducible refine vIf_t ?_ | with_reducible refine vIf_f ?_)))
  refine vIf_bne (fun h1 => ?_) (fun h1 => ?_)
  · have e1 : b.wd + (brHd c b o + 9) / 10 = brW c b o := by unfold brW; rw [if_neg h1]
    have e2 : (if brW c b o < n then brW c b o else n) = brC c b o n := rfl
    (repeat (first | simp (maxSteps := 2000000) (disch := omega) only [go_sem, ↓reduceIte, Nat.reduceEqDiff, Nat.reduceAdd, Nat.reduceMul, Nat.reduceSub, Int.reduceToNat, Int.reduceAdd, Int.reduceSub, Int.reduceMul, Int.reduceNeg] | with_reducible refine vIf_t ?_ | with_reducible refine vIf_f ?_))
    (refine vDraw_sch 4 [(0, false), (1, false), (2, false), (3, false)] mixed (by kernel_rfl) ?_; simp only [List.cons_append, List.nil_append, List.map_cons, List.map_nil, nthO_zero, nthO_succ, List.drop_succ_cons, List.drop_zero, List.drop_nil]; (repeat (first | simp (maxSteps := 2000000) (disch := omega) only [go_sem, ↓reduceIte, Nat.reduceEqDiff, Nat.reduceAdd, Nat.reduceMul, Nat.reduceSub, Int.reduceToNat, Int.reduceAdd, Int.reduceSub, Int.reduceMul, Int.reduceNeg] | with_reducible refine vIf_t ?_ | with_reducible refine vIf_f ?_)))
    (refine vsCallX_of ?_; (try (repeat (first | simp (maxSteps := 2000000) (disch := omega) only [go_sem, ↓reduceIte, Nat.reduceEqDiff, Nat.reduceAdd, Nat.reduceMul, Nat.reduceSub, Int.reduceToNat, Int.reduceAdd, Int.reduceSub, Int.reduceMul, Int.reduceNeg] | with_reducible refine vIf_t ?_ | with_reducible refine vIf_f ?_))); refine vCall_eq (hce) (by simp (disch := omega) only [go_sem, Nat.reduceAdd]) rfl (by first | exact Or.inl rfl | exact Or.inr ⟨rfl, rfl⟩ | (apply Or.inr; simp only [go_sem])) ?_; (try (repeat (first | simp (maxSteps := 2000000) (disch := omega) only [go_sem, ↓reduceIte, Nat.reduceEqDiff, Nat.reduceAdd, Nat.reduceMul, Nat.reduceSub, Int.reduceToNat, Int.reduceAdd, Int.reduceSub, Int.reduceMul, Int.reduceNeg] | with_reducible refine vIf_t ?_ | with_reducible refine vIf_f ?_))))
    (try (repeat (first | simp (maxSteps := 2000000) (disch := omega) only [go_sem, ↓reduceIte, Nat.reduceEqDiff, Nat.reduceAdd, Nat.reduceMul, Nat.reduceSub, Int.reduceToNat, Int.reduceAdd, Int.reduceSub, Int.reduceMul, Int.reduceNeg, e1, e2] | with_reducible refine vIf_t ?_ | with_reducible refine vIf_f ?_)))
    (refine retK_of ?_; (repeat (first | simp (maxSteps := 2000000) (disch := omega) only [go_sem, ↓reduceIte, Nat.reduceEqDiff, Nat.reduceAdd, Nat.reduceMul, Nat.reduceSub, Int.reduceToNat, Int.reduceAdd, Int.reduceSub, Int.reduceMul, Int.reduceNeg] | with_reducible refine vIf_t ?_ | with_reducible refine vIf_f ?_)))
    first | rfl | (simp [brS]; done) | skip
  · have e1 : b.wd = brW c b o := by unfold brW; rw [if_pos (by omega)]; omega
    have e2 : (if brW c b o < n then brW c b o else n) = brC c b o n := rfl
    rw [e1]
    (repeat (first | simp (maxSteps := 2000000) (disch := omega) only [go_sem, ↓reduceIte, Nat.reduceEqDiff, Nat.reduceAdd, Nat.reduceMul, Nat.reduceSub, Int.reduceToNat, Int.reduceAdd, Int.reduceSub, Int.reduceMul, Int.reduceNeg, e2] | with_reducible refine vIf_t ?_ | with_reducible refine vIf_f ?_))
    (refine retK_of ?_; (repeat (first | simp (maxSteps := 2000000) (disch := omega) only [go_sem, ↓reduceIte, Nat.reduceEqDiff, Nat.reduceAdd, Nat.reduceMul, Nat.reduceSub, Int.reduceToNat, Int.reduceAdd, Int.reduceSub, Int.reduceMul, Int.reduceNeg] | with_reducible refine vIf_t ?_ | with_reducible refine vIf_f ?_)))
    first | rfl | (simp [brS]; done) | skip
end Go.Proofs.YtbgjkjiepkopkaaGreatDoor

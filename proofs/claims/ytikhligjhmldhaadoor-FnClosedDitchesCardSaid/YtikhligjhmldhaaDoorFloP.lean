/- flows in nets: plain law -/
import Derived.Test.YtikhligjhmldhaaDoorAgT
import Derived.Test.YtikhligjhmldhaaDoorAgZ
set_option linter.unusedVariables false
set_option linter.unusedSimpArgs false
namespace Go.Proofs.YtikhligjhmldhaaDoor
open Go.AG

structure Dt where
  fr : Int
  tw : Int
  cp : Int
  deriving Inhabited, DecidableEq
def Dt.cells (d : Dt) : List V := [.sc (.int .i64 d.fr), .sc (.int .i64 d.tw), .sc (.int .i64 d.cp)]
def cDt (ds : List Dt) : List V := ds.flatMap Dt.cells
def gDt (ds : List Dt) (i : Nat) : Dt := ds.getD i default
theorem gDt_lt (ds : List Dt) (i : Nat) (h : i < ds.length) : gDt ds i = ds[i] := by simp [gDt, h]
theorem gDt_mem (ds : List Dt) (i : Nat) (h : i < ds.length) : gDt ds i ∈ ds := by rw [gDt_lt ds i h]; exact List.getElem_mem h
theorem gDt_take_succ (ds : List Dt) (i : Nat) (h : i < ds.length) : ds.take (i + 1) = ds.take i ++ [gDt ds i] := by rw [List.take_succ_eq_append_getElem h, gDt_lt ds i h]
theorem gDt_set_same (ds : List Dt) (i : Nat) (d : Dt) (h : i < ds.length) : gDt (ds.set i d) i = d := by simp [gDt, h]
theorem gDt_set_ne (ds : List Dt) (i j : Nat) (d : Dt) (h : i ≠ j) : gDt (ds.set i d) j = gDt ds j := by simp [gDt, h]
theorem gDt_app_l (xs ys : List Dt) (i : Nat) (h : i < xs.length) : gDt (xs ++ ys) i = gDt xs i := by simp [gDt, List.getElem?_append_left h]
theorem gDt_app_r (xs ys : List Dt) (i : Nat) (h : xs.length ≤ i) : gDt (xs ++ ys) i = gDt ys (i - xs.length) := by simp [gDt, List.getElem?_append_right h]
theorem cDt_eq (ds : List Dt) : cDt ds = (ds.map Dt.cells).flatten := by rw [cDt, List.flatMap_def]
@[go_sem] theorem length_cDt (ds : List Dt) : (cDt ds).length = ds.length * 3 := (rsLen Dt.cells 3 (fun _ => rfl) ds)
@[go_sem] theorem cDt_nil : cDt [] = [] := rfl
@[go_sem] theorem cDt_append (xs ys : List Dt) : cDt xs ++ cDt ys = cDt (xs ++ ys) := by simp [cDt]
theorem cDt_one (d : Dt) : cDt [d] = d.cells := by simp [cDt]
@[go_sem] theorem cDt_snoc (xs : List Dt) (fr : Int) (tw : Int) (cp : Int) : cDt xs ++ [.sc (.int .i64 fr), .sc (.int .i64 tw), .sc (.int .i64 cp)] = cDt (xs ++ [⟨fr, tw, cp⟩]) := by simp [cDt, Dt.cells]
@[go_sem] theorem cDt_take (ds : List Dt) (n : Nat) : (cDt ds).take (n * 3) = cDt (ds.take n) := rsTake Dt.cells 3 (fun _ => rfl) ds n
@[go_sem] theorem cDt_take_all (ds : List Dt) (n : Nat) (h : ds.length * 3 ≤ n) : (cDt ds).take n = cDt ds := List.take_of_length_le (by rw [length_cDt]; exact h)
@[go_sem] theorem cDt_drop (ds : List Dt) (n : Nat) : (cDt ds).drop (n * 3) = cDt (ds.drop n) := rsDrop Dt.cells 3 (fun _ => rfl) ds n
@[go_sem high] theorem vPart_cDt (ds : List Dt) (i : Nat) (K : V → Prop) : vPart true 3 (cDt ds) (i * 3) K = grd (i < ds.length) (K (.agg [.sc (.int .i64 (gDt ds i).fr), .sc (.int .i64 (gDt ds i).tw), .sc (.int .i64 (gDt ds i).cp)])) := rsPart Dt.cells 3 (fun _ => rfl) (by omega) ds i K
@[go_sem] theorem cDt_at (ds : List Dt) (n : Nat) (h : n < ds.length) : (cDt (ds.drop n)).take 3 = [.sc (.int .i64 (gDt ds n).fr), .sc (.int .i64 (gDt ds n).tw), .sc (.int .i64 (gDt ds n).cp)] := by rw [List.drop_eq_getElem_cons h, gDt_lt ds n h]; rfl
@[go_sem] theorem cDt_at0 (ds : List Dt) (h : 0 < ds.length) : (cDt ds).take 3 = [.sc (.int .i64 (gDt ds 0).fr), .sc (.int .i64 (gDt ds 0).tw), .sc (.int .i64 (gDt ds 0).cp)] := by cases ds with | nil => simp at h | cons x r => rfl
@[go_sem] theorem vAt_cDt_0 (ds : List Dt) (i : Nat) (K : V → Prop) : vAt (cDt ds) (i * 3) K = grd (i < ds.length) (K (.sc (.int .i64 (gDt ds i).fr))) := rsAt Dt.cells 3 (fun _ => rfl) ds i 0 (by omega) (fun d => .sc (.int .i64 d.fr)) (fun _ => rfl) K
@[go_sem] theorem wr_cDt_0 (ds : List Dt) (i : Nat) (x : Int) (h : i < ds.length) : wr (cDt ds) (i * 3) [.sc (.int .i64 x)] = cDt (ds.set i {gDt ds i with fr := x}) := rsWr Dt.cells 3 (fun _ => rfl) ds i 0 (by omega) h _ _ rfl
@[go_sem] theorem vAt_cDt_1 (ds : List Dt) (i : Nat) (K : V → Prop) : vAt (cDt ds) (i * 3 + 1) K = grd (i < ds.length) (K (.sc (.int .i64 (gDt ds i).tw))) := rsAt Dt.cells 3 (fun _ => rfl) ds i 1 (by omega) (fun d => .sc (.int .i64 d.tw)) (fun _ => rfl) K
@[go_sem] theorem wr_cDt_1 (ds : List Dt) (i : Nat) (x : Int) (h : i < ds.length) : wr (cDt ds) (i * 3 + 1) [.sc (.int .i64 x)] = cDt (ds.set i {gDt ds i with tw := x}) := rsWr Dt.cells 3 (fun _ => rfl) ds i 1 (by omega) h _ _ rfl
@[go_sem] theorem vAt_cDt_2 (ds : List Dt) (i : Nat) (K : V → Prop) : vAt (cDt ds) (i * 3 + 2) K = grd (i < ds.length) (K (.sc (.int .i64 (gDt ds i).cp))) := rsAt Dt.cells 3 (fun _ => rfl) ds i 2 (by omega) (fun d => .sc (.int .i64 d.cp)) (fun _ => rfl) K
@[go_sem] theorem wr_cDt_2 (ds : List Dt) (i : Nat) (x : Int) (h : i < ds.length) : wr (cDt ds) (i * 3 + 2) [.sc (.int .i64 x)] = cDt (ds.set i {gDt ds i with cp := x}) := rsWr Dt.cells 3 (fun _ => rfl) ds i 2 (by omega) h _ _ rfl
@[go_sem] theorem wr_cDt_0_set (ds : List Dt) (i i0 : Nat) (d : Dt) (x : Int) (h : i < ds.length) : wr (cDt (ds.set i0 d)) (i * 3) [.sc (.int .i64 x)] = cDt ((ds.set i0 d).set i {gDt (ds.set i0 d) i with fr := x}) := wr_cDt_0 _ _ _ (by rw [List.length_set]; exact h)
@[go_sem] theorem wr_cDt_1_set (ds : List Dt) (i i0 : Nat) (d : Dt) (x : Int) (h : i < ds.length) : wr (cDt (ds.set i0 d)) (i * 3 + 1) [.sc (.int .i64 x)] = cDt ((ds.set i0 d).set i {gDt (ds.set i0 d) i with tw := x}) := wr_cDt_1 _ _ _ (by rw [List.length_set]; exact h)
@[go_sem] theorem wr_cDt_2_set (ds : List Dt) (i i0 : Nat) (d : Dt) (x : Int) (h : i < ds.length) : wr (cDt (ds.set i0 d)) (i * 3 + 2) [.sc (.int .i64 x)] = cDt ((ds.set i0 d).set i {gDt (ds.set i0 d) i with cp := x}) := wr_cDt_2 _ _ _ (by rw [List.length_set]; exact h)
attribute [go_sem] gDt_set_same
@[go_sem] theorem wr_cDt_all (ds : List Dt) (i : Nat) (fr : Int) (tw : Int) (cp : Int) (h : i < ds.length) : wr (cDt ds) (i * 3) [.sc (.int .i64 fr), .sc (.int .i64 tw), .sc (.int .i64 cp)] = cDt (ds.set i ⟨fr, tw, cp⟩) := rsWrAll Dt.cells 3 (fun _ => rfl) ds i h ⟨fr, tw, cp⟩
@[go_sem] theorem imm_cDt (ds : List Dt) : V.immL (cDt ds) = true := by induction ds with | nil => rfl | cons x xs ih => exact ih
@[go_sem] theorem one_cDt (ds : List Dt) : V.oneL (cDt ds) = true := by induction ds with | nil => rfl | cons x xs ih => exact ih
@[go_sem] theorem noref_cDt (ds : List Dt) : V.norefL (cDt ds) = true := by induction ds with | nil => rfl | cons x xs ih => exact ih
@[go_sem] theorem flat_cDt (ds : List Dt) : V.flatL (cDt ds) = true := by induction ds with | nil => rfl | cons x xs ih => exact ih
@[go_sem] theorem kill_cDt (p : Nat → Bool) (ds : List Dt) : V.killL p (cDt ds) = cDt ds := killL_noref p _ (noref_cDt ds)
@[go_sem] theorem frz_cDt (f : Nat → Option Ob) (ds : List Dt) : V.frzL f (cDt ds) = cDt ds := frzL_noref f _ (noref_cDt ds)
@[go_sem] theorem ren_cDt (g : Nat → Nat) (ds : List Dt) : V.renL g (cDt ds) = cDt ds := by induction ds with | nil => rfl | cons x xs ih => exact congrArg (x.cells ++ ·) ih
@[go_sem] theorem reps_cDt (n : Nat) : reps n [V.sc (.int .i64 0), V.sc (.int .i64 0), V.sc (.int .i64 0)] = cDt (List.replicate n ⟨0, 0, 0⟩) := rsReps Dt.cells n ⟨0, 0, 0⟩
@[go_sem] theorem map_cDt_inj (xs ys : List Dt) : (cDt xs = cDt ys) = (xs = ys) := propext ⟨rsInj Dt.cells 3 (fun _ => rfl) (by omega) (fun a b h => by cases a; cases b; simpa [Dt.cells] using h) xs ys, fun h => by rw [h]⟩
@[go_sem] theorem cDt_rep0 (d : Dt) : cDt (List.replicate 0 d) = [] := rfl
@[go_sem] theorem wr_cDt_rep1 (d : Dt) (fr : Int) (tw : Int) (cp : Int) : wr (cDt (List.replicate 1 d)) 0 [.sc (.int .i64 fr), .sc (.int .i64 tw), .sc (.int .i64 cp)] = cDt [⟨fr, tw, cp⟩] := rfl
@[go_sem] theorem cDt_take1 (d : Dt) : (cDt [d]).take 3 = cDt [d] := rfl
structure Nt where
  j : Int
  ds : List Dt
def dtB (J : Int) (d : Dt) : Bool := decide (0 ≤ d.fr ∧ d.fr ≤ J - 1) && (decide (0 ≤ d.tw ∧ d.tw ≤ J - 1) && (decide (d.fr ≠ d.tw) && decide (0 ≤ d.cp ∧ d.cp ≤ 1000)))
def okN (n : Nt) : Bool := decide (2 ≤ n.j ∧ n.j ≤ 10) && (decide (n.ds.length ≤ 20) && n.ds.all (dtB n.j))
structure NtF (n : Nt) : Prop where
  j : 2 ≤ n.j ∧ n.j ≤ 10
  l : n.ds.length ≤ 20
  d : ∀ k, k < n.ds.length → (0 ≤ (gDt n.ds k).fr ∧ (gDt n.ds k).fr < n.j) ∧ (0 ≤ (gDt n.ds k).tw ∧ (gDt n.ds k).tw < n.j) ∧ (gDt n.ds k).fr ≠ (gDt n.ds k).tw ∧ (0 ≤ (gDt n.ds k).cp ∧ (gDt n.ds k).cp ≤ 1000)
theorem okN_f {n : Nt} (h : okN n = true) : NtF n := by
  unfold okN at h
  simp only [Bool.and_eq_true, decide_eq_true_eq, List.all_eq_true] at h
  refine ⟨h.1, h.2.1, fun k hk => ?_⟩
  have := h.2.2 _ (gDt_mem n.ds k hk)
  unfold dtB at this
  simp only [Bool.and_eq_true, decide_eq_true_eq] at this
  omega
/-- what runs out of a junction by the first ditches -/
def ouE (d : Dt) (f j : Int) : Int := if j = d.fr then f else if j = d.tw then -f else 0
def ouK (ds : List Dt) (F : List Int) (j : Int) : Nat → Int
  | 0 => 0
  | k + 1 => ouK ds F j k + ouE (gDt ds k) (gi F k) j
def ou (n : Nt) (F : List Int) (j : Int) : Int := ouK n.ds F j n.ds.length
def fB (n : Nt) (F : List Int) (k : Nat) : Bool := decide (0 ≤ gi F k ∧ gi F k ≤ (gDt n.ds k).cp)
def oB (n : Nt) (from_ : Int) (F : List Int) (j : Nat) : Bool := decide (0 ≤ ou n F j) && (decide (ou n F j ≤ 0) || decide ((j : Int) = from_))
def ldB (n : Nt) (from_ : Int) (F : List Int) : Bool := ((List.range n.ds.length).all (fB n F)) && ((List.range n.j.toNat).all fun j => decide (j = 0) || oB n from_ F j)
structure Lf (n : Nt) (from_ : Int) (F : List Int) : Prop where
  f : ∀ k, k < n.ds.length → 0 ≤ gi F k ∧ gi F k ≤ (gDt n.ds k).cp
  o : ∀ j : Int, 1 ≤ j → j < n.j → 0 ≤ ou n F j ∧ (ou n F j ≤ 0 ∨ j = from_)
theorem ldB_iff (n : Nt) (from_ : Int) (F : List Int) : ldB n from_ F = true ↔ Lf n from_ F := by
  unfold ldB fB oB
  simp only [Bool.and_eq_true, List.all_eq_true, List.mem_range, Bool.or_eq_true, decide_eq_true_eq]
  constructor
  · rintro ⟨h1, h2⟩
    refine ⟨h1, fun j hj hj2 => ?_⟩
    have := h2 j.toNat (by omega)
    rw [show ((j.toNat : Nat) : Int) = j by omega] at this
    omega
  · rintro ⟨h1, h2⟩
    refine ⟨h1, fun j hj => ?_⟩
    by_cases e : j = 0
    · exact .inl e
    · exact .inr (h2 j (by omega) (by omega))
theorem ouK_bd {n : Nt} (h : NtF n) {F : List Int} (hf : ∀ k, k < n.ds.length → 0 ≤ gi F k ∧ gi F k ≤ (gDt n.ds k).cp) (j : Int) : ∀ k, k ≤ n.ds.length → -1000 * (k : Int) ≤ ouK n.ds F j k ∧ ouK n.ds F j k ≤ 1000 * (k : Int)
  | 0, _ => by simp [ouK]
  | k + 1, hk => by
    have ih := ouK_bd h hf j k (by omega)
    have h1 := hf k (by omega)
    have h2 := h.d k (by omega)
    simp only [ouK, ouE]
    split
    · push_cast; omega
    · split <;> push_cast <;> omega
theorem ou_bd {n : Nt} (h : NtF n) {F : List Int} (hf : ∀ k, k < n.ds.length → 0 ≤ gi F k ∧ gi F k ≤ (gDt n.ds k).cp) (j : Int) : -20000 ≤ ou n F j ∧ ou n F j ≤ 20000 := by
  have := ouK_bd h hf j n.ds.length (Nat.le_refl _)
  have := h.l
  unfold ou
  omega
/-! sums over junctions -/
def sJ (S : Int → Bool) (f : Int → Int) : Nat → Int
  | 0 => 0
  | m + 1 => sJ S f m + (if S m = true then f m else 0)
theorem sJ_add (S : Int → Bool) (f g : Int → Int) : ∀ m, sJ S (fun j => f j + g j) m = sJ S f m + sJ S g m
  | 0 => rfl
  | m + 1 => by
    simp only [sJ, sJ_add S f g m]
    split <;> omega
theorem sJ_zero (S : Int → Bool) : ∀ m, sJ S (fun _ => 0) m = 0
  | 0 => rfl
  | m + 1 => by simp [sJ, sJ_zero S m]
theorem sJ_one (S : Int → Bool) (u x : Int) (hu : 0 ≤ u) : ∀ m : Nat, sJ S (fun j => if j = u then x else 0) m = if u < m ∧ S u = true then x else 0
  | 0 => by simp only [sJ]; rw [if_neg (by omega)]
  | m + 1 => by
    simp only [sJ, sJ_one S u x hu m]
    by_cases e : (m : Int) = u
    · subst e
      rw [if_neg (by omega)]
      by_cases g : S (m : Int) = true
      · rw [if_pos g, if_pos rfl, if_pos ⟨by omega, g⟩]; omega
      · rw [if_neg g, if_neg (fun h => g h.2)]; omega
    · rw [if_neg e]
      have : (if S (m : Int) = true then (0 : Int) else 0) = 0 := by split <;> rfl
      rw [this, Int.add_zero]
      by_cases g : u < m ∧ S u = true
      · rw [if_pos g, if_pos ⟨by omega, g.2⟩]
      · rw [if_neg g, if_neg (fun h => g ⟨by omega, h.2⟩)]
theorem sJ_only (S : Int → Bool) (f : Int → Int) (u : Int) (hu : 0 ≤ u) : ∀ m : Nat, (∀ j : Nat, j < m → S j = true → (j : Int) ≠ u → f j = 0) → sJ S f m = if u < m ∧ S u = true then f u else 0
  | 0, _ => by simp only [sJ]; rw [if_neg (by omega)]
  | m + 1, h => by
    simp only [sJ, sJ_only S f u hu m (fun j hj => h j (by omega))]
    by_cases e : (m : Int) = u
    · subst e
      rw [if_neg (by omega)]
      by_cases g : S (m : Int) = true
      · rw [if_pos g, if_pos ⟨by omega, g⟩]; omega
      · rw [if_neg g, if_neg (fun h => g h.2)]; omega
    · have : (if S (m : Int) = true then f m else 0) = 0 := by
        split
        · exact h m (by omega) (by assumption) e
        · rfl
      rw [this, Int.add_zero]
      by_cases g : u < m ∧ S u = true
      · rw [if_pos g, if_pos ⟨by omega, g.2⟩]
      · rw [if_neg g, if_neg (fun h => g ⟨by omega, h.2⟩)]
def neK (ds : List Dt) (F : List Int) (S : Int → Bool) : Nat → Int
  | 0 => 0
  | k + 1 => neK ds F S k + ((if S (gDt ds k).fr = true then gi F k else 0) - (if S (gDt ds k).tw = true then gi F k else 0))
def cuK (ds : List Dt) (S : Int → Bool) : Nat → Int
  | 0 => 0
  | k + 1 => cuK ds S k + (if S (gDt ds k).fr = true ∧ S (gDt ds k).tw = false then (gDt ds k).cp else 0)
theorem sJ_out {n : Nt} (h : NtF n) (F : List Int) (S : Int → Bool) : ∀ k, k ≤ n.ds.length → sJ S (fun j => ouK n.ds F j k) n.j.toNat = neK n.ds F S k
  | 0, _ => sJ_zero S _
  | k + 1, hk => by
    have ih := sJ_out h F S k (by omega)
    have hd := h.d k (by omega)
    have hj := h.j
    simp only [ouK, neK]
    rw [sJ_add, ih]
    have e : ouE (gDt n.ds k) (gi F k) = fun j => (if j = (gDt n.ds k).fr then gi F k else 0) + (if j = (gDt n.ds k).tw then -gi F k else 0) := by
      funext j
      unfold ouE
      split
      · rename_i e; subst e; rw [if_neg hd.2.2.1]; omega
      · split <;> omega
    rw [e, sJ_add, sJ_one S _ _ hd.1.1, sJ_one S _ _ hd.2.1.1]
    have e1 : ((gDt n.ds k).fr < (n.j.toNat : Int) ∧ S (gDt n.ds k).fr = true) ↔ S (gDt n.ds k).fr = true := ⟨fun h => h.2, fun h => ⟨by omega, h⟩⟩
    have e2 : ((gDt n.ds k).tw < (n.j.toNat : Int) ∧ S (gDt n.ds k).tw = true) ↔ S (gDt n.ds k).tw = true := ⟨fun h => h.2, fun h => ⟨by omega, h⟩⟩
    simp only [e1, e2]
    split <;> split <;> omega
theorem ne_le {n : Nt} {F : List Int} (hf : ∀ k, k < n.ds.length → 0 ≤ gi F k ∧ gi F k ≤ (gDt n.ds k).cp) (S : Int → Bool) : ∀ k, k ≤ n.ds.length → neK n.ds F S k ≤ cuK n.ds S k
  | 0, _ => Int.le_refl _
  | k + 1, hk => by
    have ih := ne_le hf S k (by omega)
    have h1 := hf k (by omega)
    simp only [neK, cuK]
    cases S (gDt n.ds k).fr <;> cases S (gDt n.ds k).tw <;> simp <;> omega
/-- the flow out of a place is that over the border of a side -/
theorem ou_ne {n : Nt} (h : NtF n) {from_ : Int} (hfr : 1 ≤ from_ ∧ from_ < n.j) {F : List Int} (hl : Lf n from_ F) (S : Int → Bool) (hS : S from_ = true) (h0 : S 0 = false) : ou n F from_ = neK n.ds F S n.ds.length := by
  have h1 := sJ_out h F S n.ds.length (Nat.le_refl _)
  rw [← h1, sJ_only S (fun j => ouK n.ds F j n.ds.length) from_ (by omega) n.j.toNat (fun j hj hs hne => ?_)]
  · rw [if_pos ⟨by omega, hS⟩]; rfl
  · by_cases e : (j : Int) = 0
    · rw [e, h0] at hs; cases hs
    · have := hl.o j (by omega) (by omega)
      unfold ou at this
      omega
theorem ou_cut {n : Nt} (h : NtF n) {from_ : Int} (hfr : 1 ≤ from_ ∧ from_ < n.j) {F : List Int} (hl : Lf n from_ F) (S : Int → Bool) (hS : S from_ = true) (h0 : S 0 = false) : ou n F from_ ≤ cuK n.ds S n.ds.length := by
  rw [ou_ne h hfr hl S hS h0]
  exact ne_le hl.f S _ (Nat.le_refl _)
/-- what is left of a ditch, from u to v -/
def Rsd (d : Dt) (f u v : Int) : Prop := (d.fr = u ∧ d.tw = v ∧ f < d.cp) ∨ (d.tw = u ∧ d.fr = v ∧ 0 < f)
theorem ne_eq {n : Nt} {F : List Int} (hf : ∀ k, k < n.ds.length → 0 ≤ gi F k ∧ gi F k ≤ (gDt n.ds k).cp) (S : Int → Bool) (hc : ∀ k, k < n.ds.length → ∀ u v, Rsd (gDt n.ds k) (gi F k) u v → S u = true → S v = true) : ∀ k, k ≤ n.ds.length → neK n.ds F S k = cuK n.ds S k
  | 0, _ => rfl
  | k + 1, hk => by
    have ih := ne_eq hf S hc k (by omega)
    have h1 := hf k (by omega)
    have h2 := hc k (by omega)
    simp only [neK, cuK, ih]
    cases e1 : S (gDt n.ds k).fr <;> cases e2 : S (gDt n.ds k).tw <;> simp
    · by_cases g : 0 < gi F k
      · have := h2 _ _ (.inr ⟨rfl, rfl, g⟩) e2
        rw [e1] at this; cases this
      · omega
    · by_cases g : gi F k < (gDt n.ds k).cp
      · have := h2 _ _ (.inl ⟨rfl, rfl, g⟩) e1
        rw [e2] at this; cases this
      · omega
theorem ou_max {n : Nt} (h : NtF n) {from_ : Int} (hfr : 1 ≤ from_ ∧ from_ < n.j) {F : List Int} (hl : Lf n from_ F) (S : Int → Bool) (hS : S from_ = true) (h0 : S 0 = false) (hc : ∀ k, k < n.ds.length → ∀ u v, Rsd (gDt n.ds k) (gi F k) u v → S u = true → S v = true) : ou n F from_ = cuK n.ds S n.ds.length := by
  rw [ou_ne h hfr hl S hS h0]
  exact ne_eq hl.f S hc _ (Nat.le_refl _)
/-! the tree of what is reached -/
structure Tre (n : Nt) (F : List Int) (from_ : Int) (L K : List Int) : Prop where
  ln : K.length = L.length
  pos : 1 ≤ L.length
  l0 : gi L 0 = from_
  k0 : gi K 0 = -1
  nd : L.Nodup
  inn : ∀ x ∈ L, 0 ≤ x ∧ x < n.j
  e : ∀ i, 1 ≤ i → i < L.length → (0 ≤ gi K i ∧ gi K i < n.ds.length) ∧ ∃ j, j < i ∧ Rsd (gDt n.ds (gi K i).toNat) (gi F (gi K i).toNat) (gi L j) (gi L i)
theorem Tre.zero {n : Nt} {F : List Int} {from_ : Int} (hfr : 0 ≤ from_ ∧ from_ < n.j) : Tre n F from_ [from_] [-1] :=
  ⟨rfl, by simp, rfl, rfl, by simp, fun x hx => by rw [List.mem_singleton.1 hx]; exact hfr, fun i h1 h2 => by simp at h2; omega⟩
theorem Tre.add {n : Nt} {F : List Int} {from_ : Int} {L K : List Int} (h : Tre n F from_ L K) (k : Nat) (hk : k < n.ds.length) (u v : Int) (hu : u ∈ L) (hv : ¬ v ∈ L) (hvj : 0 ≤ v ∧ v < n.j) (hr : Rsd (gDt n.ds k) (gi F k) u v) : Tre n F from_ (L ++ [v]) (K ++ [(k : Int)]) := by
  have hpos := h.pos
  have hln := h.ln
  refine ⟨by simp [hln], by simp, by rw [gi_append_left _ _ _ (by omega)]; exact h.l0, by rw [gi_append_left _ _ _ (by omega)]; exact h.k0, ?_, fun x hx => ?_, fun i h1 h2 => ?_⟩
  · rw [List.nodup_append]
    refine ⟨h.nd, by simp, fun a ha b hb e => hv ?_⟩
    rw [List.mem_singleton] at hb
    rw [← hb, ← e]; exact ha
  · rcases List.mem_append.1 hx with hx | hx
    · exact h.inn x hx
    · rw [List.mem_singleton.1 hx]; exact hvj
  · simp only [List.length_append, List.length_singleton] at h2
    by_cases e : i < L.length
    · obtain ⟨g1, j, g2, g3⟩ := h.e i h1 e
      rw [gi_append_left K _ _ (by omega)]
      refine ⟨g1, j, g2, ?_⟩
      rw [gi_append_left L _ _ (by omega), gi_append_left L _ _ e]; exact g3
    · obtain rfl : i = L.length := by omega
      have e1 : gi (K ++ [(k : Int)]) L.length = k := by rw [← hln, gi_append_right _ _ _ (Nat.le_refl _), Nat.sub_self]; rfl
      have e2 : gi (L ++ [v]) L.length = v := by rw [gi_append_right _ _ _ (Nat.le_refl _), Nat.sub_self]; rfl
      obtain ⟨j, hj, ej⟩ := List.mem_iff_getElem.1 hu
      rw [e1, e2]
      refine ⟨by omega, j, hj, ?_⟩
      rw [gi_append_left _ _ _ hj, gi_lt _ _ hj, ej, Int.toNat_natCast]; exact hr
theorem nodup_gi {L : List Int} (h : L.Nodup) {i j : Nat} (hi : i < L.length) (hj : j < L.length) (e : gi L i = gi L j) : i = j := by
  rw [gi_lt _ _ hi, gi_lt _ _ hj] at e
  have hp := List.pairwise_iff_getElem.1 h
  by_cases g : i < j
  · exact absurd e (hp i j hi hj g)
  · by_cases g2 : j < i
    · exact absurd e.symm (hp j i hj hi g2)
    · omega
/-- a ditch tells one junction only -/
theorem Tre.uniq {n : Nt} (hn : NtF n) {F : List Int} {from_ : Int} {L K : List Int} (h : Tre n F from_ L K) {p q : Nat} (h1 : 1 ≤ p) (h2 : p < q) (h3 : q < L.length) : gi K p ≠ gi K q := by
  intro e
  obtain ⟨a1, j, a2, a3⟩ := h.e p h1 (by omega)
  obtain ⟨b1, i, b2, b3⟩ := h.e q (by omega) h3
  rw [← e] at b3
  have hd := (hn.d (gi K p).toNat (by omega)).2.2.1
  unfold Rsd at a3 b3
  have key : gi L j = gi L q ∨ gi L p = gi L q := by
    rcases a3 with ⟨x1, x2, _⟩ | ⟨x1, x2, _⟩ <;> rcases b3 with ⟨y1, y2, _⟩ | ⟨y1, y2, _⟩
    · exact .inr (by omega)
    · exact .inl (by omega)
    · exact .inl (by omega)
    · exact .inr (by omega)
  rcases key with g | g
  · have := nodup_gi h.nd (by omega) h3 g; omega
  · have := nodup_gi h.nd (by omega) h3 g; omega
/-- flows on the way of a push -/
structure Psh (n : Nt) (F : List Int) (L K : List Int) (G : List Int) (p : Nat) : Prop where
  len : G.length = n.ds.length
  pl : p < L.length
  o : ∀ j, ou n G j = ou n F j - (if j = 0 then 1 else 0) + (if j = gi L p then 1 else 0)
  bd : ∀ k, k < n.ds.length → 0 ≤ gi G k ∧ gi G k ≤ (gDt n.ds k).cp
  un : ∀ k, k < n.ds.length → gi G k = gi F k ∨ ∃ q, p < q ∧ q < L.length ∧ gi K q = (k : Int)
theorem Psh.zero {n : Nt} {F L K : List Int} {from_ : Int} (hlen : F.length = n.ds.length) (hl : Lf n from_ F) {p : Nat} (hp : p < L.length) (h0 : gi L p = 0) : Psh n F L K F p :=
  ⟨hlen, hp, fun j => by rw [h0]; split <;> omega, hl.f, fun k _ => .inl rfl⟩
theorem ouK_set (ds : List Dt) (G : List Int) (i : Nat) (x j : Int) (hi : i < G.length) : ∀ k, ouK ds (G.set i x) j k = ouK ds G j k + if i < k then ouE (gDt ds i) x j - ouE (gDt ds i) (gi G i) j else 0
  | 0 => by simp [ouK]
  | k + 1 => by
    simp only [ouK, ouK_set ds G i x j hi k]
    by_cases e : i = k
    · subst e
      rw [gi_set_same _ _ _ hi, if_neg (by omega), if_pos (by omega)]; omega
    · rw [gi_set_ne _ _ _ _ e]
      by_cases g : i < k
      · rw [if_pos g, if_pos (by omega)]; omega
      · rw [if_neg g, if_neg (by omega)]; omega
theorem Psh.next {n : Nt} (hn : NtF n) {F : List Int} {from_ : Int} {L K G : List Int} {p : Nat} (hT : Tre n F from_ L K) (h : Psh n F L K G p) (hp : 1 ≤ p) :
    (0 ≤ gi K p ∧ gi K p < n.ds.length) ∧ ∃ j, j < p ∧
      ((gi L p = (gDt n.ds (gi K p).toNat).tw ∧ gi L j = (gDt n.ds (gi K p).toNat).fr ∧ Psh n F L K (G.set (gi K p).toNat (gi G (gi K p).toNat + 1)) j) ∨
       (gi L p ≠ (gDt n.ds (gi K p).toNat).tw ∧ gi L p = (gDt n.ds (gi K p).toNat).fr ∧ gi L j = (gDt n.ds (gi K p).toNat).tw ∧ Psh n F L K (G.set (gi K p).toNat (gi G (gi K p).toNat - 1)) j)) := by
  have hpl := h.pl
  obtain ⟨a1, j, a2, a3⟩ := hT.e p hp hpl
  refine ⟨a1, j, a2, ?_⟩
  have hun := h.un (gi K p).toNat (by omega)
  have hGF : gi G (gi K p).toNat = gi F (gi K p).toNat := by
    rcases hun with e | ⟨q, q1, q2, q3⟩
    · exact e
    · exfalso
      exact hT.uniq hn hp q1 q2 (by omega)
  have hd := hn.d (gi K p).toNat (by omega)
  have hb := h.bd (gi K p).toNat (by omega)
  have hlen := h.len
  obtain ⟨k, hkd⟩ : ∃ k, k = (gi K p).toNat := ⟨_, rfl⟩
  rw [← hkd] at a3 hd hb hGF ⊢
  have hk : k < n.ds.length := by omega
  have hou : ∀ x j', ou n (G.set k x) j' = ou n G j' + (ouE (gDt n.ds k) x j' - ouE (gDt n.ds k) (gi G k) j') := fun x j' => by
    unfold ou
    rw [ouK_set _ _ _ _ _ (by omega), if_pos hk]
  have hunN : ∀ x k', k' < n.ds.length → gi (G.set k x) k' = gi F k' ∨ ∃ q, j < q ∧ q < L.length ∧ gi K q = (k' : Int) := fun x k' hk' => by
    by_cases e : k = k'
    · subst e; exact .inr ⟨p, a2, hpl, by omega⟩
    · rw [gi_set_ne _ _ _ _ e]
      rcases h.un k' hk' with g | ⟨q, q1, q2, q3⟩
      · exact .inl g
      · exact .inr ⟨q, by omega, q2, q3⟩
  unfold Rsd at a3
  rcases a3 with ⟨x1, x2, x3⟩ | ⟨x1, x2, x3⟩
  · refine .inl ⟨x2.symm, x1.symm, by simp [hlen], by omega, fun j' => ?_, fun k' hk' => ?_, hunN _⟩
    · rw [hou, h.o j', ← x1]
      unfold ouE
      by_cases e1 : j' = (gDt n.ds k).fr
      · rw [if_pos e1, if_pos e1, if_neg (show ¬ j' = gi L p by omega), if_pos e1]; omega
      · rw [if_neg e1, if_neg e1, if_neg e1]
        by_cases e2 : j' = (gDt n.ds k).tw
        · rw [if_pos e2, if_pos e2, if_pos (show j' = gi L p by omega)]; omega
        · rw [if_neg e2, if_neg e2, if_neg (show ¬ j' = gi L p by omega)]; omega
    · by_cases e : k = k'
      · subst e; rw [gi_set_same _ _ _ (by omega)]; omega
      · rw [gi_set_ne _ _ _ _ e]; exact h.bd k' hk'
  · refine .inr ⟨by omega, x2.symm, x1.symm, by simp [hlen], by omega, fun j' => ?_, fun k' hk' => ?_, hunN _⟩
    · rw [hou, h.o j', ← x1]
      unfold ouE
      by_cases e1 : j' = (gDt n.ds k).fr
      · rw [if_pos e1, if_pos e1, if_pos (show j' = gi L p by omega), if_neg (show ¬ j' = (gDt n.ds k).tw by omega)]; omega
      · rw [if_neg e1, if_neg e1, if_neg (show ¬ j' = gi L p by omega)]
        by_cases e2 : j' = (gDt n.ds k).tw
        · rw [if_pos e2, if_pos e2, if_pos e2]; omega
        · rw [if_neg e2, if_neg e2, if_neg e2]; omega
    · by_cases e : k = k'
      · subst e; rw [gi_set_same _ _ _ (by omega)]; omega
      · rw [gi_set_ne _ _ _ _ e]; exact h.bd k' hk'
theorem Psh.end {n : Nt} {F : List Int} {from_ : Int} (hfr : 1 ≤ from_ ∧ from_ < n.j) {L K G : List Int} (hT : Tre n F from_ L K) (h : Psh n F L K G 0) (hl : Lf n from_ F) : Lf n from_ G ∧ ou n G from_ = ou n F from_ + 1 := by
  have ho := h.o
  rw [hT.l0] at ho
  refine ⟨⟨h.bd, fun j h1 h2 => ?_⟩, ?_⟩
  · have := hl.o j h1 h2
    rw [ho j, if_neg (by omega)]
    by_cases e : j = from_
    · rw [if_pos e]; omega
    · rw [if_neg e]; omega
  · rw [ho, if_neg (by omega), if_pos rfl]; omega
/-- the zero flow -/
theorem Lf.zero {n : Nt} (hn : NtF n) (from_ : Int) : Lf n from_ (List.replicate n.ds.length 0) ∧ ou n (List.replicate n.ds.length 0) from_ = 0 := by
  have hz : ∀ i, gi (List.replicate n.ds.length (0 : Int)) i = 0 := fun i => by
    unfold gi
    by_cases h : i < n.ds.length
    · simp [h]
    · simp [h]
  have ho : ∀ j k, ouK n.ds (List.replicate n.ds.length 0) j k = 0 := by
    intro j k
    induction k with
    | zero => rfl
    | succ k ih => simp [ouK, ih, ouE, hz]
  refine ⟨⟨fun k hk => by rw [hz]; have := hn.d k hk; omega, fun j _ _ => by unfold ou; rw [ho]; omega⟩, by unfold ou; exact ho _ _⟩
/-- a greatest flow: a cut says so -/
structure Most (n : Nt) (from_ v : Int) (S : Int → Bool) : Prop where
  S1 : S from_ = true
  S0 : S 0 = false
  F : ∃ F, Lf n from_ F ∧ ou n F from_ = v
  c : cuK n.ds S n.ds.length = v
theorem Most.uniq {n : Nt} (hn : NtF n) {from_ v w : Int} (hfr : 1 ≤ from_ ∧ from_ < n.j) {S T : Int → Bool} (h : Most n from_ v S) (k : Most n from_ w T) : v = w := by
  obtain ⟨F, f1, f2⟩ := h.F
  obtain ⟨G, g1, g2⟩ := k.F
  have h1 := ou_cut hn hfr f1 T k.S1 k.S0
  have h2 := ou_cut hn hfr g1 S h.S1 h.S0
  have := h.c
  have := k.c
  omega
theorem Most.le {n : Nt} (hn : NtF n) {from_ v : Int} (hfr : 1 ≤ from_ ∧ from_ < n.j) {S : Int → Bool} (h : Most n from_ v S) {F : List Int} (hl : Lf n from_ F) : ou n F from_ ≤ v := by
  have h1 := ou_cut hn hfr hl S h.S1 h.S0
  have := h.c
  omega
end Go.Proofs.YtikhligjhmldhaaDoor

/- tenders: data, and whether they are valid -/
import Derived.Test.YtbbdfifpncjpnaaGreatDoorX6
import Derived.Test.YtbbdfifpncjpnaaGreatDoorAgZ
set_option linter.unusedVariables false
set_option linter.unusedSimpArgs false
namespace Go.Proofs.YtbbdfifpncjpnaaGreatDoor
open Go.AG

/-- something is so of all numbers below n -/
def allB (n : Nat) (f : Nat → Bool) : Bool := decide (∀ j, j < n → f j = true)
theorem allB_no {n : Nat} {f : Nat → Bool} (k : Nat) (hk : k < n) (h : f k = false) : allB n f = false := decide_eq_false fun h2 => by rw [h2 k hk] at h; cases h
theorem allB_yes {n : Nat} {f : Nat → Bool} (h : ∀ j, j < n → f j = true) : allB n f = true := decide_eq_true h
theorem allB_get {n : Nat} {f : Nat → Bool} (h : allB n f = true) (k : Nat) (hk : k < n) : f k = true := of_decide_eq_true h k hk
theorem upto_snoc {p : Nat → Prop} {k : Nat} (h : ∀ j, j < k → p j) (hk : p k) : ∀ j, j < k + 1 → p j := fun j hj => by
  rcases Nat.lt_succ_iff_lt_or_eq.1 hj with h1 | h1
  · exact h j h1
  · rw [h1]; exact hk
/-- the first place at which something is so, -1 if there is none -/
def fstI {α : Type} (q : α → Bool) (xs : List α) : Int := match xs.findIdx? q with
  | some i => (i : Int)
  | none => -1
theorem fstI_some {α : Type} [Inhabited α] {q : α → Bool} {xs : List α} (k : Nat) (hk : k < xs.length) (hn : ∀ j, j < k → q (xs.getD j default) = false) (h : q (xs.getD k default) = true) : fstI q xs = k := by
  have : xs.findIdx? q = some k := by
    rw [List.findIdx?_eq_some_iff_getElem]
    refine ⟨hk, by simpa [List.getD, hk] using h, fun j hj => ?_⟩
    have := hn j hj
    simpa [List.getD, show j < xs.length by omega] using this
  simp only [fstI, this]
theorem fstI_none {α : Type} [Inhabited α] {q : α → Bool} {xs : List α} (hn : ∀ j, j < xs.length → q (xs.getD j default) = false) : fstI q xs = -1 := by
  have : xs.findIdx? q = none := by
    rw [List.findIdx?_eq_none_iff]
    intro x hx
    obtain ⟨j, hj, rfl⟩ := List.mem_iff_getElem.1 hx
    have := hn j hj
    simpa [List.getD, hj] using this
  simp only [fstI, this]
theorem fstI_cases {α : Type} [Inhabited α] (q : α → Bool) (xs : List α) : (fstI q xs = -1 ∧ ∀ j, j < xs.length → q (xs.getD j default) = false) ∨ ∃ k : Nat, fstI q xs = k ∧ k < xs.length ∧ q (xs.getD k default) = true ∧ ∀ j, j < k → q (xs.getD j default) = false := by
  cases h : xs.findIdx? q with
  | none =>
    refine .inl ⟨by simp only [fstI, h], fun j hj => ?_⟩
    rw [List.findIdx?_eq_none_iff] at h
    have := h xs[j] (List.getElem_mem hj)
    simpa [List.getD, hj] using this
  | some k =>
    refine .inr ⟨k, by simp only [fstI, h], ?_⟩
    rw [List.findIdx?_eq_some_iff_getElem] at h
    obtain ⟨hk, h1, h2⟩ := h
    refine ⟨hk, by simpa [List.getD, hk] using h1, fun j hj => ?_⟩
    have := h2 j hj
    simpa [List.getD, show j < xs.length by omega] using this

structure Bd where
  who : Int
  lot : Int
  off : Int
  deriving Inhabited, DecidableEq
def Bd.cells (d : Bd) : List V := [.sc (.int .i64 d.who), .sc (.int .i64 d.lot), .sc (.int .i64 d.off)]
def cBd (ds : List Bd) : List V := ds.flatMap Bd.cells
def gBd (ds : List Bd) (i : Nat) : Bd := ds.getD i default
theorem gBd_lt (ds : List Bd) (i : Nat) (h : i < ds.length) : gBd ds i = ds[i] := by simp [gBd, h]
theorem gBd_mem (ds : List Bd) (i : Nat) (h : i < ds.length) : gBd ds i ∈ ds := by rw [gBd_lt ds i h]; exact List.getElem_mem h
theorem gBd_take_succ (ds : List Bd) (i : Nat) (h : i < ds.length) : ds.take (i + 1) = ds.take i ++ [gBd ds i] := by rw [List.take_succ_eq_append_getElem h, gBd_lt ds i h]
theorem gBd_set_same (ds : List Bd) (i : Nat) (d : Bd) (h : i < ds.length) : gBd (ds.set i d) i = d := by simp [gBd, h]
theorem gBd_set_ne (ds : List Bd) (i j : Nat) (d : Bd) (h : i ≠ j) : gBd (ds.set i d) j = gBd ds j := by simp [gBd, h]
theorem gBd_app_l (xs ys : List Bd) (i : Nat) (h : i < xs.length) : gBd (xs ++ ys) i = gBd xs i := by simp [gBd, List.getElem?_append_left h]
theorem gBd_app_r (xs ys : List Bd) (i : Nat) (h : xs.length ≤ i) : gBd (xs ++ ys) i = gBd ys (i - xs.length) := by simp [gBd, List.getElem?_append_right h]
theorem cBd_eq (ds : List Bd) : cBd ds = (ds.map Bd.cells).flatten := by rw [cBd, List.flatMap_def]
@[go_sem] theorem length_cBd (ds : List Bd) : (cBd ds).length = ds.length * 3 := (rsLen Bd.cells 3 (fun _ => rfl) ds)
@[go_sem] theorem cBd_nil : cBd [] = [] := rfl
@[go_sem] theorem cBd_append (xs ys : List Bd) : cBd xs ++ cBd ys = cBd (xs ++ ys) := by simp [cBd]
theorem cBd_one (d : Bd) : cBd [d] = d.cells := by simp [cBd]
@[go_sem] theorem cBd_snoc (xs : List Bd) (who : Int) (lot : Int) (off : Int) : cBd xs ++ [.sc (.int .i64 who), .sc (.int .i64 lot), .sc (.int .i64 off)] = cBd (xs ++ [⟨who, lot, off⟩]) := by simp [cBd, Bd.cells]
@[go_sem] theorem cBd_take (ds : List Bd) (n : Nat) : (cBd ds).take (n * 3) = cBd (ds.take n) := rsTake Bd.cells 3 (fun _ => rfl) ds n
@[go_sem] theorem cBd_take_all (ds : List Bd) (n : Nat) (h : ds.length * 3 ≤ n) : (cBd ds).take n = cBd ds := List.take_of_length_le (by rw [length_cBd]; exact h)
@[go_sem] theorem cBd_drop (ds : List Bd) (n : Nat) : (cBd ds).drop (n * 3) = cBd (ds.drop n) := rsDrop Bd.cells 3 (fun _ => rfl) ds n
@[go_sem high] theorem vPart_cBd (ds : List Bd) (i : Nat) (K : V → Prop) : vPart true 3 (cBd ds) (i * 3) K = grd (i < ds.length) (K (.agg [.sc (.int .i64 (gBd ds i).who), .sc (.int .i64 (gBd ds i).lot), .sc (.int .i64 (gBd ds i).off)])) := rsPart Bd.cells 3 (fun _ => rfl) (by omega) ds i K
@[go_sem] theorem cBd_at (ds : List Bd) (n : Nat) (h : n < ds.length) : (cBd (ds.drop n)).take 3 = [.sc (.int .i64 (gBd ds n).who), .sc (.int .i64 (gBd ds n).lot), .sc (.int .i64 (gBd ds n).off)] := by rw [List.drop_eq_getElem_cons h, gBd_lt ds n h]; rfl
@[go_sem] theorem cBd_at0 (ds : List Bd) (h : 0 < ds.length) : (cBd ds).take 3 = [.sc (.int .i64 (gBd ds 0).who), .sc (.int .i64 (gBd ds 0).lot), .sc (.int .i64 (gBd ds 0).off)] := by cases ds with | nil => simp at h | cons x r => rfl
@[go_sem] theorem vAt_cBd_0 (ds : List Bd) (i : Nat) (K : V → Prop) : vAt (cBd ds) (i * 3) K = grd (i < ds.length) (K (.sc (.int .i64 (gBd ds i).who))) := rsAt Bd.cells 3 (fun _ => rfl) ds i 0 (by omega) (fun d => .sc (.int .i64 d.who)) (fun _ => rfl) K
@[go_sem] theorem wr_cBd_0 (ds : List Bd) (i : Nat) (x : Int) (h : i < ds.length) : wr (cBd ds) (i * 3) [.sc (.int .i64 x)] = cBd (ds.set i {gBd ds i with who := x}) := rsWr Bd.cells 3 (fun _ => rfl) ds i 0 (by omega) h _ _ rfl
@[go_sem] theorem vAt_cBd_1 (ds : List Bd) (i : Nat) (K : V → Prop) : vAt (cBd ds) (i * 3 + 1) K = grd (i < ds.length) (K (.sc (.int .i64 (gBd ds i).lot))) := rsAt Bd.cells 3 (fun _ => rfl) ds i 1 (by omega) (fun d => .sc (.int .i64 d.lot)) (fun _ => rfl) K
@[go_sem] theorem wr_cBd_1 (ds : List Bd) (i : Nat) (x : Int) (h : i < ds.length) : wr (cBd ds) (i * 3 + 1) [.sc (.int .i64 x)] = cBd (ds.set i {gBd ds i with lot := x}) := rsWr Bd.cells 3 (fun _ => rfl) ds i 1 (by omega) h _ _ rfl
@[go_sem] theorem vAt_cBd_2 (ds : List Bd) (i : Nat) (K : V → Prop) : vAt (cBd ds) (i * 3 + 2) K = grd (i < ds.length) (K (.sc (.int .i64 (gBd ds i).off))) := rsAt Bd.cells 3 (fun _ => rfl) ds i 2 (by omega) (fun d => .sc (.int .i64 d.off)) (fun _ => rfl) K
@[go_sem] theorem wr_cBd_2 (ds : List Bd) (i : Nat) (x : Int) (h : i < ds.length) : wr (cBd ds) (i * 3 + 2) [.sc (.int .i64 x)] = cBd (ds.set i {gBd ds i with off := x}) := rsWr Bd.cells 3 (fun _ => rfl) ds i 2 (by omega) h _ _ rfl
@[go_sem] theorem wr_cBd_0_set (ds : List Bd) (i i0 : Nat) (d : Bd) (x : Int) (h : i < ds.length) : wr (cBd (ds.set i0 d)) (i * 3) [.sc (.int .i64 x)] = cBd ((ds.set i0 d).set i {gBd (ds.set i0 d) i with who := x}) := wr_cBd_0 _ _ _ (by rw [List.length_set]; exact h)
@[go_sem] theorem wr_cBd_1_set (ds : List Bd) (i i0 : Nat) (d : Bd) (x : Int) (h : i < ds.length) : wr (cBd (ds.set i0 d)) (i * 3 + 1) [.sc (.int .i64 x)] = cBd ((ds.set i0 d).set i {gBd (ds.set i0 d) i with lot := x}) := wr_cBd_1 _ _ _ (by rw [List.length_set]; exact h)
@[go_sem] theorem wr_cBd_2_set (ds : List Bd) (i i0 : Nat) (d : Bd) (x : Int) (h : i < ds.length) : wr (cBd (ds.set i0 d)) (i * 3 + 2) [.sc (.int .i64 x)] = cBd ((ds.set i0 d).set i {gBd (ds.set i0 d) i with off := x}) := wr_cBd_2 _ _ _ (by rw [List.length_set]; exact h)
attribute [go_sem] gBd_set_same
@[go_sem] theorem wr_cBd_all (ds : List Bd) (i : Nat) (who : Int) (lot : Int) (off : Int) (h : i < ds.length) : wr (cBd ds) (i * 3) [.sc (.int .i64 who), .sc (.int .i64 lot), .sc (.int .i64 off)] = cBd (ds.set i ⟨who, lot, off⟩) := rsWrAll Bd.cells 3 (fun _ => rfl) ds i h ⟨who, lot, off⟩
@[go_sem] theorem imm_cBd (ds : List Bd) : V.immL (cBd ds) = true := by induction ds with | nil => rfl | cons x xs ih => exact ih
@[go_sem] theorem one_cBd (ds : List Bd) : V.oneL (cBd ds) = true := by induction ds with | nil => rfl | cons x xs ih => exact ih
@[go_sem] theorem noref_cBd (ds : List Bd) : V.norefL (cBd ds) = true := by induction ds with | nil => rfl | cons x xs ih => exact ih
@[go_sem] theorem flat_cBd (ds : List Bd) : V.flatL (cBd ds) = true := by induction ds with | nil => rfl | cons x xs ih => exact ih
@[go_sem] theorem kill_cBd (p : Nat → Bool) (ds : List Bd) : V.killL p (cBd ds) = cBd ds := killL_noref p _ (noref_cBd ds)
@[go_sem] theorem frz_cBd (f : Nat → Option Ob) (ds : List Bd) : V.frzL f (cBd ds) = cBd ds := frzL_noref f _ (noref_cBd ds)
@[go_sem] theorem ren_cBd (g : Nat → Nat) (ds : List Bd) : V.renL g (cBd ds) = cBd ds := by induction ds with | nil => rfl | cons x xs ih => exact congrArg (x.cells ++ ·) ih
@[go_sem] theorem reps_cBd (n : Nat) : reps n [V.sc (.int .i64 0), V.sc (.int .i64 0), V.sc (.int .i64 0)] = cBd (List.replicate n ⟨0, 0, 0⟩) := rsReps Bd.cells n ⟨0, 0, 0⟩
@[go_sem] theorem map_cBd_inj (xs ys : List Bd) : (cBd xs = cBd ys) = (xs = ys) := propext ⟨rsInj Bd.cells 3 (fun _ => rfl) (by omega) (fun a b h => by cases a; cases b; simpa [Bd.cells] using h) xs ys, fun h => by rw [h]⟩
@[go_sem] theorem cBd_rep0 (d : Bd) : cBd (List.replicate 0 d) = [] := rfl
@[go_sem] theorem wr_cBd_rep1 (d : Bd) (who : Int) (lot : Int) (off : Int) : wr (cBd (List.replicate 1 d)) 0 [.sc (.int .i64 who), .sc (.int .i64 lot), .sc (.int .i64 off)] = cBd [⟨who, lot, off⟩] := rfl
@[go_sem] theorem cBd_take1 (d : Bd) : (cBd [d]).take 3 = cBd [d] := rfl
structure Td where
  lots : Int
  most : List Int
  bids : List Bd
/-- a tender's cells -/
def tC (t : Td) : List V := [I t.lots, .sl t.most.length (ints t.most), .sl t.bids.length (cBd t.bids)]
/-- a bid's faults: none -/
def bidB (w l o lots n : Int) : Bool := decide (0 ≤ w ∧ w ≤ n - 1) && decide (0 ≤ l ∧ l ≤ lots - 1) && decide (1 ≤ o ∧ o ≤ 1000000)
def isB (w l : Int) (b : Bd) : Bool := decide (b.who = w) && decide (b.lot = l)
def okB (t : Td) (i : Nat) : Bool := bidB (gBd t.bids i).who (gBd t.bids i).lot (gBd t.bids i).off t.lots t.most.length && decide (fstI (isB (gBd t.bids i).who (gBd t.bids i).lot) (t.bids.take i) < 0)
def okT (t : Td) : Bool := decide (1 ≤ t.lots ∧ t.lots ≤ 8) && decide (1 ≤ (t.most.length : Int) ∧ (t.most.length : Int) ≤ 6) && t.most.all (fun x => decide (0 ≤ x ∧ x ≤ 8)) && allB t.bids.length (okB t)
theorem gBd_take (bs : List Bd) (i j : Nat) (h : j < i) : gBd (bs.take i) j = gBd bs j := by
  simp [gBd, List.getD, List.getElem?_take, h]

end Go.Proofs.YtbbdfifpncjpnaaGreatDoor

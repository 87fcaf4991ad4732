/- tables of rows that are made from the last one on: cells -/
import Derived.Test.YtcmkkejcnomcdaaDoorAgT
import Derived.Test.YtcmkkejcnomcdaaDoorAgZ
set_option linter.unusedVariables false
set_option linter.unusedSimpArgs false
namespace Go.Proofs.YtcmkkejcnomcdaaDoor
open Go.AG

/-- a table whose first rows are nil -/
def tbl (h : Nat) (ys : List V) : List V := List.replicate h (V.sc (.slice none 0 0)) ++ ys
theorem tbl_rep (h : Nat) : List.replicate h (V.sc (.slice none 0 0)) = tbl h [] := by simp [tbl]
theorem length_tbl (h : Nat) (ys : List V) : (tbl h ys).length = h + ys.length := by simp [tbl]
theorem tbl_wr (h : Nat) (ys : List V) (x : V) : wr (tbl (h + 1) ys) h [x] = tbl h (x :: ys) := by
  simp only [wr, tbl, List.length_singleton]
  rw [List.take_append_of_le_length (by simp), List.take_replicate, Nat.min_eq_left (by omega)]
  rw [List.drop_append_of_le_length (by simp), List.drop_replicate, Nat.sub_self]
  simp
theorem tbl_at0 (h : Nat) (y : V) (ys : List V) (K : V → Prop) : vAt (tbl h (y :: ys)) h K = K y := by simp [vAt, tbl]
theorem tbl_at1 (h : Nat) (y : V) (ys : List V) (K : V → Prop) : vAt (tbl h (y :: ys)) (h + 1) K = vAt ys 0 K := by
  simp only [vAt, tbl]
  rw [List.getElem?_append_right (by simp)]
  simp
theorem tbl_kill (p : Nat → Bool) (h : Nat) (ys : List V) : V.killL p (tbl h ys) = tbl h (V.killL p ys) := by simp [killL_eq, tbl, V.kill]
theorem tbl_frz (f : Nat → Option Ob) (h : Nat) (ys : List V) : V.frzL f (tbl h ys) = tbl h (V.frzL f ys) := by simp [frzL_eq, tbl, V.frz]
theorem tbl_ren (g : Nat → Nat) (h : Nat) (ys : List V) : V.renL g (tbl h ys) = tbl h (V.renL g ys) := by simp [renL_eq, tbl, V.ren]
theorem tbl_imm (h : Nat) (ys : List V) : V.immL (tbl h ys) = V.immL ys := by
  induction h with
  | zero => simp [tbl]
  | succ h ih => simp only [tbl, List.replicate_succ, List.cons_append] at ih ⊢; simpa [V.immL, V.imm] using ih
theorem tbl_one (h : Nat) (ys : List V) : V.oneL (tbl h ys) = V.oneL ys := by
  induction h with
  | zero => simp [tbl]
  | succ h ih => simp only [tbl, List.replicate_succ, List.cons_append] at ih ⊢; simpa [V.oneL, V.one, Value.oneCell'] using ih
theorem tbl_refs (h : Nat) (ys : List V) : V.norefL (tbl h ys) = V.norefL ys := by
  induction h with
  | zero => simp [tbl]
  | succ h ih => simp only [tbl, List.replicate_succ, List.cons_append] at ih ⊢; simpa [V.norefL, V.noref] using ih
theorem tbl_zero (ys : List V) : tbl 0 ys = ys := by simp [tbl]
theorem rws_cons (x : List Int) (xs : List (List Int)) : V.sl x.length (ints x) :: rws xs = rws (x :: xs) := by simp [rws, iS]
theorem i2n1 (k : Nat) : ((k : Int) + 1).toNat = k + 1 := by omega
theorem leF_fz {s t : AState} (l : Nat) (o : Ob) (ho : Live s.ob l o) (hi : V.immL o.cells = true) (h : leF { s with sl := trS (V.frz (oneF l o)) s.sl, ob := (trO (V.frz (oneF l o)) s.ob).set l none } t) : leF s t := by
  obtain ⟨s2, h1, h2⟩ := h
  exact ⟨s2, .step l o ho hi h1, h2⟩
attribute [go_sem] i2n1 tbl_rep length_tbl tbl_wr tbl_at0 tbl_at1 tbl_kill tbl_frz tbl_ren tbl_imm tbl_one tbl_refs tbl_zero
end Go.Proofs.YtcmkkejcnomcdaaDoor

/-
  AG, part R: a contract's result may be weakened (nil read as the slice without elements), in a tuple too; the rows that the laws' marks leave. Conditions: none.
-/
import Derived.Test.YtgkhkpmjgjdkhaaAgQ
set_option linter.unusedSimpArgs false
set_option linter.unusedVariables false
namespace Go.AG
open Go.RowKit

def leR (r r' : V) : Prop := V.le r r' ∨ ∃ xs ys, r = .tup xs ∧ r' = .tup ys ∧ xs.length = ys.length ∧ ∀ i (h : i < xs.length) (h' : i < ys.length), V.le xs[i] ys[i]

theorem RepC.leT {w : World} {Y : Nat → Prop} {ρ : Nat → Pl} {ob : Objs} {v : Value} {x y : V} (h : RepC w Y ρ ob v x) (hl : leR x y) : RepC w Y ρ ob v y := by
  rcases hl with hl | ⟨xs, ys, rfl, rfl, hn, hl⟩
  · exact h.le hl
  · cases h with
    | d h => cases h
    | tup hs hr => exact .tup (by rw [hs, hn]) fun i hi => (hr i (by omega)).le (hl i (by omega) hi)

theorem ACalls.leT {P : Program} {f : FuncId} {args : List V} {ob : Objs} {Q Q' : V → Objs → Prop} (h : ACalls P f args ob Q) (hq : ∀ r o, Q r o → ∃ r', leR r r' ∧ Q' r' o) : ACalls P f args ob Q' :=
  ⟨h.1, fun w X ρ vs h1 h2 h3 => (h.2 w X ρ vs h1 h2 h3).mono fun e w' ⟨v, r, o, ρ', he, hQ, hi, hh, hr⟩ => by
    obtain ⟨r', hl, hQ'⟩ := hq r o hQ
    exact ⟨v, r', o, ρ', he, hQ', hi, hh, hr.leT hl⟩⟩

theorem leR_nil2 (c : V) : leR (.tup [.sc (.slice none 0 0), c]) (.tup [.sl 0 [], c]) := by
  refine .inr ⟨_, _, rfl, rfl, rfl, fun i h h' => ?_⟩
  match i, h with
  | 0, _ => exact .inr (.inr ⟨rfl, rfl⟩)
  | 1, _ => exact .inl rfl
theorem leR_refl (x : V) : leR x x := .inl (.inl rfl)

def upto (n : Nat) : List Int := (List.range n).map fun (i : Nat) => (i : Int) + 1
@[go_sem] theorem length_upto (n : Nat) : (upto n).length = n := by simp [upto]
theorem gi_upto (n i : Nat) (h : i < n) : gi (upto n) i = (i : Int) + 1 := by rw [gi_lt _ _ (by simpa [upto] using h)]; simp [upto]
theorem upto_succ (n : Nat) : upto (n + 1) = upto n ++ [(n : Int) + 1] := by simp [upto, List.range_succ]
@[go_sem] theorem take_upto (n : Nat) : (upto n).take n = upto n := List.take_of_length_le (by rw [length_upto]; exact Nat.le_refl _)
theorem upto_zero : upto 0 = [] := by simp [upto]
/-- one more element of a row is written, from the left -/
theorem set_grow (ys xs : List Int) (k : Nat) (n : Int) (h : ys.length = k) (hk : k < xs.length) : (ys ++ xs.drop k).set k n = (ys ++ [n]) ++ xs.drop (k + 1) := by
  subst h
  rw [List.set_append, if_neg (by omega), Nat.sub_self, List.drop_eq_getElem_cons hk, List.set_cons_zero, List.append_assoc]
  rfl
@[go_sem] theorem wr_rep1 (z n : Int) : wr (List.replicate 1 z) 0 [n] = [n] := rfl
@[go_sem] theorem length_one (n : Int) : [n].length = 1 := rfl
@[go_sem] theorem take_take_self (xs : List Int) (k : Nat) : (xs.take k).take k = xs.take k := by rw [List.take_take, Nat.min_self]
theorem drop_gi (xs : List Int) (k : Nat) (h : k < xs.length) : xs.drop k = [gi xs k] ++ xs.drop (k + 1) := by
  rw [List.drop_eq_getElem_cons h, gi_lt xs k h]; rfl
theorem iS_live {ob : Objs} (l : Nat) (o : Ob) (h : ob[l]? = some (some o)) : Live ob l o := h
end Go.AG

/-
  AG, part R: a contract's result may be weakened (nil read as the slice without elements), in a tuple too; the rows that the laws' marks leave. Conditions: none.
-/
import Derived.Test.YtkgfpephkinocaaAgQ
set_option linter.unusedSimpArgs false
set_option linter.unusedVariables false
namespace Go.AG
open Go.RowKit

def leR (r r' : V) : Prop := V.le r r' ∨ ∃ xs ys, r = .tup xs ∧ r' = .tup ys ∧ xs.length = ys.length ∧ ∀ i (h : i < xs.length) (h' : i < ys.length), V.le xs[i] ys[i]

theorem RepC.leT {w : World} {Y : Nat → Prop} {ρ : Nat → Pl} {ob : Objs} {v : Value} {x y : V} (h : RepC w Y ρ ob v x) (hl : leR x y) : RepC w Y ρ ob v y := by
  rcases hl with hl | ⟨xs, ys, rfl, rfl, hn, hl⟩
  · exact h.le hl
  · cases h with
    | d h => cases h
    | tup hs hr => exact .tup (by rw [hs, hn]) fun i hi => (hr i (by omega)).le (hl i (by omega) hi)

theorem ACalls.leT {P : Program} {f : FuncId} {args : List V} {ob : Objs} {Q Q' : V → Objs → Prop} (h : ACalls P f args ob Q) (hq : ∀ r o, Q r o → ∃ r', leR r r' ∧ Q' r' o) : ACalls P f args ob Q' :=
  ⟨h.1, fun w X ρ vs h1 h2 h3 => (h.2 w X ρ vs h1 h2 h3).mono fun e w' ⟨v, r, o, ρ', he, hQ, hi, hh, hr⟩ => by
    obtain ⟨r', hl, hQ'⟩ := hq r o hQ
    exact ⟨v, r', o, ρ', he, hQ', hi, hh, hr.leT hl⟩⟩

theorem leR_nil2 (c : V) : leR (.tup [.sc (.slice none 0 0), c]) (.tup [.sl 0 [], c]) := by
  refine .inr ⟨_, _, rfl, rfl, rfl, fun i h h' => ?_⟩
  match i, h with
  | 0, _ => exact .inr (.inr ⟨rfl, rfl⟩)
  | 1, _ => exact .inl rfl
theorem leR_refl (x : V) : leR x x := .inl (.inl rfl)

def upto (n : Nat) : List Int := (List.range n).map fun (i : Nat) => (i : Int) + 1
@[go_sem] theorem length_upto (n : Nat) : (upto n).length = n := by simp [upto]
theorem gi_upto (n i : Nat) (h : i < n) : gi (upto n) i = (i : Int) + 1 := by rw [gi_lt _ _ (by simpa [upto] using h)]; simp [upto]
theorem upto_succ (n : Nat) : upto (n + 1) = upto n ++ [(n : Int) + 1] := by simp [upto, List.range_succ]
@[go_sem] theorem take_upto (n : Nat) : (upto n).take n = upto n := List.take_of_length_le (by rw [length_upto]; exact Nat.le_refl _)
theorem upto_zero : upto 0 = [] := by simp [upto]
/-- one more element of a row is written, from the left -/
theorem set_grow (ys xs : List Int) (k : Nat) (n : Int) (h : ys.length = k) (hk : k < xs.length) : (ys ++ xs.drop k).set k n = (ys ++ [n]) ++ xs.drop (k + 1) := by
  subst h
  rw [List.set_append, if_neg (by omega), Nat.sub_self, List.drop_eq_getElem_cons hk, List.set_cons_zero, List.append_assoc]
  rfl
@[go_sem] theorem wr_rep1 (z n : Int) : wr (List.replicate 1 z) 0 [n] = [n] := rfl
@[go_sem] theorem length_one (n : Int) : [n].length = 1 := rfl
@[go_sem] theorem take_take_self (xs : List Int) (k : Nat) : (xs.take k).take k = xs.take k := by rw [List.take_take, Nat.min_self]
theorem drop_gi (xs : List Int) (k : Nat) (h : k < xs.length) : xs.drop k = [gi xs k] ++ xs.drop (k + 1) := by
  rw [List.drop_eq_getElem_cons h, gi_lt xs k h]; rfl
def plS (P : Program) (fs : List (Nat × TypeId)) (i : Nat) : Option (Nat × Nat) := (fs.map fun f => (f.1, (ti P f.2).size))[i]?
@[go_sem] theorem plS_zero (P : Program) (q : Nat × TypeId) (fs : List (Nat × TypeId)) : plS P (q :: fs) 0 = some (q.1, (ti P q.2).size) := rfl
@[go_sem] theorem plS_succ (P : Program) (q : Nat × TypeId) (fs : List (Nat × TypeId)) (i : Nat) : plS P (q :: fs) (i + 1) = plS P fs i := rfl
@[go_sem] theorem vBuildD_struct (P : Program) (ok : Bool) (fs : List (Nat × TypeId)) (size bytes : Nat) (zero : List Value) (s : AState) (parts : List (Nat × V)) (d : Option Nat) (K : AState → Prop) :
    vBuildD P ⟨ok, .struct fs, size, bytes, zero⟩ s parts d K = grd (ok = true ∧ zero ≠ [] ∧ zero.all Value.oneCell' = true) (grd ((fs.all fun f => (ti P f.2).ok) = true)
      (vFill (plS P fs) (zero.map V.sc) parts fun cells => fin d K s (.agg cells))) := rfl
@[congr] theorem vBuildD_congr {P : Program} {t t' : TI} {s s' : AState} {ps ps' : List (Nat × V)} {d : Option Nat} {K : AState → Prop} (ht : t = t') (hs : s = s') (hp : ps = ps') : vBuildD P t s ps d K = vBuildD P t' s' ps' d K := by rw [ht, hs, hp]
@[go_sem] theorem wr_cons0 (x y : V) (xs ys : List V) : wr (x :: xs) 0 (y :: ys) = y :: wr xs 0 ys := by simp [wr]
@[go_sem] theorem wr_nil0 (xs : List V) : wr xs 0 [] = xs := by simp [wr]
attribute [go_sem] List.all_cons List.all_nil List.map_cons List.map_nil
def getL (s : AState) (sl : List (Nat × V)) : List V := sl.map fun q => s.get q.1
@[go_sem] theorem getL_nil (s : AState) : getL s [] = [] := rfl
@[go_sem] theorem getL_cons (s : AState) (t : Nat) (x : V) (r : List (Nat × V)) : getL s ((t, x) :: r) = s.get t :: getL s r := rfl
@[go_sem] theorem leP_mk (n k n' k' : Nat) (sl sl' : List (Nat × V)) (ob ob' : Objs) : leP ⟨n, k, sl, ob⟩ ⟨n', k', sl', ob'⟩ = (n = n' ∧ k = k' ∧ k ≤ ob.length ∧
  vRet k ob (.tup (getL ⟨n, k, sl, ob⟩ sl')) fun r ob2 => ∃ xs, r = .tup xs ∧ leS ⟨n, k, (sl'.map (·.1)).zip xs, ob2⟩ ⟨n', k', sl', ob'⟩) := rfl
@[go_sem] theorem ex_tup (L : List V) (p : List V → Prop) : (∃ xs, V.tup L = .tup xs ∧ p xs) = p L := by
  apply propext
  constructor
  · rintro ⟨xs, h, hp⟩; cases h; exact hp
  · intro hp; exact ⟨L, rfl, hp⟩
attribute [go_sem] List.zip_cons_cons List.zip_nil_left
theorem iS_live {ob : Objs} (l : Nat) (o : Ob) (h : ob[l]? = some (some o)) : Live ob l o := h
end Go.AG

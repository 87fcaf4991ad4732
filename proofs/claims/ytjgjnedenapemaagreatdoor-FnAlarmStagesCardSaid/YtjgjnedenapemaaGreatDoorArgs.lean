/- contracts read arguments as weaker ones -/
import Derived.Test.YtjgjnedenapemaaGreatDoorAgZ
set_option linter.unusedVariables false
set_option linter.unusedSimpArgs false
namespace Go.AG
open Go.RowKit

def leArgs : List V → List V → Prop
  | [], [] => True
  | x :: xs, y :: ys => V.le x y ∧ leArgs xs ys
  | _, _ => False
theorem leArgs_get : ∀ (xs ys : List V), leArgs xs ys → xs.length = ys.length ∧ ∀ i (h : i < xs.length) (h' : i < ys.length), V.le xs[i] ys[i]
  | [], [], _ => ⟨rfl, fun i h => absurd h (by simp)⟩
  | x :: xs, y :: ys, h => by
    obtain ⟨h1, h2⟩ := leArgs_get xs ys h.2
    refine ⟨by simp [h1], fun i hi hi' => ?_⟩
    cases i with
    | zero => exact h.1
    | succ i => exact h2 i (by simpa using hi) (by simpa using hi')
theorem ACalls.arg {P : Program} {f : FuncId} {args args' : List V} {ob : Objs} {Q : V → Objs → Prop} (h : ACalls P f args ob Q) (hl : leArgs args' args) : ACalls P f args' ob Q := by
  obtain ⟨h1, h2⟩ := leArgs_get _ _ hl
  exact ⟨h.1, fun w X ρ vs h0 hs hh hr => h.2 w X ρ vs h0 (by omega) hh (fun i hi => (hr i (by omega)).le (h2 i (by omega) hi))⟩
theorem leA_nil : leArgs [] [] := trivial
theorem leA_same (x : V) {xs ys : List V} (h : leArgs xs ys) : leArgs (x :: xs) (x :: ys) := ⟨V.le_refl x, h⟩
theorem leA_nilS {xs ys : List V} (h : leArgs xs ys) : leArgs (.sc (.slice none 0 0) :: xs) (.sl 0 [] :: ys) := ⟨.inr (.inr ⟨rfl, rfl⟩), h⟩
/-- a deeper reading: nil slices within structs and tuples -/
inductive LeD : V → V → Prop where
  | le {x y : V} (h : V.le x y) : LeD x y
  | agg {xs ys : List V} (hn : xs.length = ys.length) (h : ∀ i (h : i < xs.length) (h' : i < ys.length), LeD xs[i] ys[i]) : LeD (.agg xs) (.agg ys)
  | tup {xs ys : List V} (hn : xs.length = ys.length) (h : ∀ i (h : i < xs.length) (h' : i < ys.length), LeD xs[i] ys[i]) : LeD (.tup xs) (.tup ys)
theorem RepC.leD {w : World} {Y : Nat → Prop} {ρ : Nat → Pl} {ob : Objs} {x y : V} (hl : LeD x y) : ∀ {v : Value}, RepC w Y ρ ob v x → RepC w Y ρ ob v y := by
  induction hl with
  | le h => intro v hr; exact hr.le h
  | agg hn _ ih =>
    intro v hr
    cases hr with
    | d h => cases h
    | agg hs hr => exact .agg (by rw [hs, hn]) fun i hi => ih i (by omega) hi (hr i (by omega))
  | tup hn _ ih =>
    intro v hr
    cases hr with
    | d h => cases h
    | tup hs hr => exact .tup (by rw [hs, hn]) fun i hi => ih i (by omega) hi (hr i (by omega))
def leDL : List V → List V → Prop
  | [], [] => True
  | x :: xs, y :: ys => LeD x y ∧ leDL xs ys
  | _, _ => False
theorem leDL_get : ∀ (xs ys : List V), leDL xs ys → xs.length = ys.length ∧ ∀ i (h : i < xs.length) (h' : i < ys.length), LeD xs[i] ys[i]
  | [], [], _ => ⟨rfl, fun i h => absurd h (by simp)⟩
  | x :: xs, y :: ys, h => by
    obtain ⟨h1, h2⟩ := leDL_get xs ys h.2
    refine ⟨by simp [h1], fun i hi hi' => ?_⟩
    cases i with
    | zero => exact h.1
    | succ i => exact h2 i (by simpa using hi) (by simpa using hi')
theorem LeD.agg' {xs ys : List V} (h : leDL xs ys) : LeD (.agg xs) (.agg ys) := .agg (leDL_get _ _ h).1 (leDL_get _ _ h).2
theorem LeD.tup' {xs ys : List V} (h : leDL xs ys) : LeD (.tup xs) (.tup ys) := .tup (leDL_get _ _ h).1 (leDL_get _ _ h).2
theorem leD_nil : leDL [] [] := trivial
theorem leD_same (x : V) {xs ys : List V} (h : leDL xs ys) : leDL (x :: xs) (x :: ys) := ⟨.le (V.le_refl x), h⟩
theorem leD_nilS {xs ys : List V} (h : leDL xs ys) : leDL (.sc (.slice none 0 0) :: xs) (.sl 0 [] :: ys) := ⟨.le (.inr (.inr ⟨rfl, rfl⟩)), h⟩
theorem leD_cons {x y : V} {xs ys : List V} (hx : LeD x y) (h : leDL xs ys) : leDL (x :: xs) (y :: ys) := ⟨hx, h⟩
theorem ACalls.leD {P : Program} {f : FuncId} {args : List V} {ob : Objs} {Q Q' : V → Objs → Prop} (h : ACalls P f args ob Q) (hq : ∀ r o, Q r o → ∃ r', LeD r r' ∧ Q' r' o) : ACalls P f args ob Q' :=
  ⟨h.1, fun w X ρ vs h0 h1 h2 h3 => (h.2 w X ρ vs h0 h1 h2 h3).mono fun e w' ⟨v, r, o, ρ', he, hQ, hh, hr⟩ => by
    obtain ⟨r', hl, hQ'⟩ := hq r o hQ
    exact ⟨v, r', o, ρ', he, hQ', hh, RepC.leD hl hr⟩⟩
theorem ACalls.argD {P : Program} {f : FuncId} {args args' : List V} {ob : Objs} {Q : V → Objs → Prop} (h : ACalls P f args ob Q) (hl : leDL args' args) : ACalls P f args' ob Q := by
  obtain ⟨h1, h2⟩ := leDL_get _ _ hl
  exact ⟨h.1, fun w X ρ vs h0 hs hh hr => h.2 w X ρ vs h0 (by omega) hh (fun i hi => RepC.leD (h2 i (by omega) hi) (hr i (by omega)))⟩
/-- an object is frozen ahead of a return -/
theorem retK_fz {P : Program} {rs : List ResultVar} {Q : V → Objs → Prop} {s : AState} (l : Nat) (o : Ob) (ho : Live s.ob l o) (hi : V.immL o.cells = true) (h : retK P rs Q { s with sl := trS (V.frz (oneF l o)) s.sl, ob := (trO (V.frz (oneF l o)) s.ob).set l none }) : retK P rs Q s := by
  obtain ⟨s1, h1, h2⟩ := h
  exact ⟨s1, .step l o ho hi h1, h2⟩
end Go.AG

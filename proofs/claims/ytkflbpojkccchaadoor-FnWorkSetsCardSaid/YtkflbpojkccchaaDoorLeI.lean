/- immutable slices read deeper: nil slices within rows -/
import Derived.Test.YtkflbpojkccchaaDoorFzC
set_option linter.unusedVariables false
set_option linter.unusedSimpArgs false
namespace Go.AG
open Go.RowKit

inductive LeI : V → V → Prop where
  | refl (x : V) : LeI x x
  | nil : LeI (.sc (.slice none 0 0)) (.sl 0 [])
  | sl {n : Nat} {xs ys : List V} (hn : xs.length = ys.length) (h : ∀ i (h : i < xs.length) (h' : i < ys.length), LeI xs[i] ys[i]) : LeI (.sl n xs) (.sl n ys)
  | ip {n : Nat} {xs ys : List V} (hn : xs.length = ys.length) (h : ∀ i (h : i < xs.length) (h' : i < ys.length), LeI xs[i] ys[i]) : LeI (.ip xs n) (.ip ys n)
  | agg {xs ys : List V} (hn : xs.length = ys.length) (h : ∀ i (h : i < xs.length) (h' : i < ys.length), LeI xs[i] ys[i]) : LeI (.agg xs) (.agg ys)
  | tup {xs ys : List V} (hn : xs.length = ys.length) (h : ∀ i (h : i < xs.length) (h' : i < ys.length), LeI xs[i] ys[i]) : LeI (.tup xs) (.tup ys)
theorem RepD.leI {w : World} {X : Nat → Prop} {x y : V} (hl : LeI x y) : ∀ {v : Value}, RepD w X v x → RepD w X v y := by
  induction hl with
  | refl x => intro v h; exact h
  | nil =>
    intro v h
    cases h
    exact .nil
  | @sl n xs ys hn h ih =>
    intro v hr
    cases hr with
    | nil =>
      have : ys = [] := List.eq_nil_of_length_eq_zero (by simpa using hn.symm)
      subst this; exact .nil
    | sl0 a =>
      have : ys = [] := List.eq_nil_of_length_eq_zero (by simpa using hn.symm)
      subst this; exact .sl0 a
    | sl cs hc hr hx hcl =>
      refine .sl cs (fun i hi => hc i (by omega)) (fun i hi => ih i (by omega) hi (hr i (by omega))) (fun hne => hx fun e => hne ?_) hcl
      subst e
      exact List.eq_nil_of_length_eq_zero (by simpa using hn.symm)
  | @ip n xs ys hn h ih =>
    intro v hr
    cases hr with
    | ip cs hc hr hx =>
      refine .ip cs (fun i hi => hc i (by omega)) (fun i hi => ih i (by omega) hi (hr i (by omega))) (fun hne => hx fun e => hne ?_)
      subst e
      exact List.eq_nil_of_length_eq_zero (by simpa using hn.symm)
  | agg => intro v h; cases h
  | tup => intro v h; cases h
theorem RepC.leI {w : World} {Y : Nat → Prop} {ρ : Nat → Pl} {ob : Objs} {x y : V} (hl : LeI x y) : ∀ {v : Value}, RepC w Y ρ ob v x → RepC w Y ρ ob v y := by
  induction hl with
  | refl x => intro v h; exact h
  | nil =>
    intro v h
    cases h with
    | d h => exact .d (h.leI .nil)
  | @sl n xs ys hn h ih =>
    intro v hr
    cases hr with
    | d hr => exact .d (hr.leI (.sl hn h))
  | @ip n xs ys hn h ih =>
    intro v hr
    cases hr with
    | d hr => exact .d (hr.leI (.ip hn h))
  | agg hn _ ih =>
    intro v hr
    cases hr with
    | d h => cases h
    | agg hs hr => exact .agg (by rw [hs, hn]) fun i hi => ih i (by omega) hi (hr i (by omega))
  | tup hn _ ih =>
    intro v hr
    cases hr with
    | d h => cases h
    | tup hs hr => exact .tup (by rw [hs, hn]) fun i hi => ih i (by omega) hi (hr i (by omega))
theorem ACalls.leI {P : Program} {f : FuncId} {args : List V} {ob : Objs} {Q Q' : V → Objs → Prop} (h : ACalls P f args ob Q) (hq : ∀ r o, Q r o → ∃ r', LeI r r' ∧ Q' r' o) : ACalls P f args ob Q' :=
  ⟨h.1, fun w X ρ vs h0 h1 h2 h3 => (h.2 w X ρ vs h0 h1 h2 h3).mono fun e w' ⟨v, r, o, ρ', he, hQ, hh, hr⟩ => by
    obtain ⟨r', hl, hQ'⟩ := hq r o hQ
    exact ⟨v, r', o, ρ', he, hQ', hh, RepC.leI hl hr⟩⟩
/-- cell lists, row by row -/
inductive LeIL : List V → List V → Prop where
  | nil : LeIL [] []
  | cons {x y : V} {xs ys : List V} (h : LeI x y) (t : LeIL xs ys) : LeIL (x :: xs) (y :: ys)
theorem LeIL.get {xs ys : List V} (h : LeIL xs ys) : xs.length = ys.length ∧ ∀ i (h : i < xs.length) (h' : i < ys.length), LeI xs[i] ys[i] := by
  induction h with
  | nil => exact ⟨rfl, fun i h => absurd h (by simp)⟩
  | cons h _ ih =>
    refine ⟨by simp [ih.1], fun i hi hi' => ?_⟩
    cases i with
    | zero => exact h
    | succ i => exact ih.2 i (by simpa using hi) (by simpa using hi')
theorem LeIL.same (xs : List V) : LeIL xs xs := by
  induction xs with
  | nil => exact .nil
  | cons x xs ih => exact .cons (.refl x) ih
theorem LeIL.app {xs ys xs' ys' : List V} (h : LeIL xs ys) (h' : LeIL xs' ys') : LeIL (xs ++ xs') (ys ++ ys') := by
  induction h with
  | nil => exact h'
  | cons h _ ih => exact .cons h ih
theorem LeIL.toSl {n : Nat} {xs ys : List V} (h : LeIL xs ys) : LeI (.sl n xs) (.sl n ys) := .sl h.get.1 h.get.2
theorem LeIL.toIp {n : Nat} {xs ys : List V} (h : LeIL xs ys) : LeI (.ip xs n) (.ip ys n) := .ip h.get.1 h.get.2
theorem LeIL.toAgg {xs ys : List V} (h : LeIL xs ys) : LeI (.agg xs) (.agg ys) := .agg h.get.1 h.get.2
theorem LeIL.toTup {xs ys : List V} (h : LeIL xs ys) : LeI (.tup xs) (.tup ys) := .tup h.get.1 h.get.2
end Go.AG

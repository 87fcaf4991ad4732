/-
  AG, part Q: from a contract to what a law's frame asks of the walk. Conditions: none.
-/
import Derived.Test.YtkgfpephkinocaaAgO
set_option linter.unusedSimpArgs false
set_option linter.unusedVariables false
namespace Go.AG
open Go.RowKit

theorem HOk.start (w : World) (ρ : Nat → Pl) : HOk ⟨w, fun _ => False, ownB ρ [], 0, ρ⟩ w ρ [] where
  os := rfl
  tape := rfl
  output := rfl
  size := Nat.le_refl _
  frame := fun _ _ _ => rfl
  xlt := fun _ h => h.elim
  obj := fun l o ho => by simp [Live] at ho
  fresh := fun l o ho => by simp [Live] at ho
  inj := fun l _ o _ ho => by simp [Live] at ho
  stay := fun l o _ ho => by simp [Live] at ho

/-- a list of machine values that reads as a list of abstract ones, nobody owning anything -/
def Args (w : World) : List Value → List V → Prop
  | [], [] => True
  | v :: vs, x :: xs => RepC w (fun _ => False) (fun _ => ⟨0, 0, 0⟩) [] v x ∧ Args w vs xs
  | _, _ => False

theorem Args.get {w : World} : ∀ {vs : List Value} {xs : List V}, Args w vs xs → vs.length = xs.length ∧ ∀ i (h : i < xs.length), RepC w (fun _ => False) (fun _ => ⟨0, 0, 0⟩) [] (vs.getD i undef) xs[i]
  | [], [], _ => ⟨rfl, fun i h => absurd h (by simp)⟩
  | v :: vs, x :: xs, h => by
    obtain ⟨h1, h2⟩ := Args.get h.2
    refine ⟨by simp [h1], fun i hi => ?_⟩
    cases i with
    | zero => exact h.1
    | succ i => exact h2 i (by simpa using hi)
  | [], _ :: _, h => h.elim
  | _ :: _, [], h => h.elim

theorem walk_of {P : Program} {f : FuncId} {args : List V} (h : ACalls P f args [] (fun r o => r = B true ∧ o = [])) {w : World} {vs : List Value} (ha : Args w vs args) :
    Calls P f vs.toArray w fun e w' => e = .returned (.bool true) ∧ Below w.heap.size w w' := by
  obtain ⟨hs, hr⟩ := ha.get
  refine (h.2 w (fun _ => False) (fun _ => ⟨0, 0, 0⟩) vs.toArray (by simpa using hs) (HOk.start w _) (fun i hi => ?_)).mono ?_
  · have hi2 : i < vs.length := by omega
    have := hr i hi
    have e : vs.toArray.getD i undef = vs.getD i undef := by simp [Array.getD, List.getD, hi2]
    rw [e]
    refine this.mono' (fun _ _ _ h => h) (fun b _ hb => ?_) (fun l o ho => by simp [Live] at ho)
    rcases hb with hb | hb
    · exact hb
    · exact own_nil hb
  · rintro e w' ⟨v, r, ob', ρ', rfl, ⟨rfl, rfl⟩, _, hh, hr⟩
    rw [sc_of hr]
    exact ⟨rfl, hh.os, hh.tape, hh.output, hh.size, fun b hb => hh.frame b hb own_nil⟩

theorem row_rep {k : IntKind} {w : World} {a : Option Addr} {len cap : Nat} {zs : List Int} (h : (a = none ∧ len = 0 ∧ cap = 0 ∧ zs = []) ∨
    ∃ x, a = some x ∧ len ≤ cap ∧ cap ≤ maxLen ∧ zs.length = cap ∧ (∀ i, i < zs.length → w.cell? (x.add i) = some (.int k (zs.getD i 0))) ∧ ∀ n ∈ zs, (Lit.int k n).wf = true) :
    RepD w (fun _ => False) (.slice a len cap) (.sl len ((zs.take len).map fun n => V.sc (.int k n))) := by
  rcases h with ⟨rfl, rfl, rfl, rfl⟩ | ⟨x, rfl, hl, hm, hz, hc, _⟩
  · exact .nil
  · by_cases hcap : cap = 0
    · subst hcap
      have h0 : len = 0 := by omega
      subst h0
      have : zs = [] := List.eq_nil_of_length_eq_zero hz
      subst this
      exact .sl0 x
    have hspot : x.spot = none := by
      have := hc 0 (by omega)
      simp only [Addr.add_zero'] at this
      cases hs : x.spot with
      | none => rfl
      | some q => simp [World.cell?, hs] at this; split at this <;> simp at this
    obtain ⟨b, o, sp⟩ := x
    simp only at hspot
    subst hspot
    refine .sl (fun i => .int k (zs.getD i 0)) (fun i hi => ?_) (fun i hi => ?_) (fun _ h => h) hl
    · have hi2 : i < zs.length := by simp at hi; omega
      have := hc i hi2
      rwa [Addr.add_lit] at this
    · have hi2 : i < zs.length := by simp at hi; omega
      have : ((zs.take len).map fun n => V.sc (.int k n))[i] = V.sc (.int k (zs.getD i 0)) := by simp [hi2]
      rw [this]
      exact .sc _

theorem row_len {k : IntKind} {w : World} {a : Option Addr} {len cap : Nat} {zs : List Int} (h : (a = none ∧ len = 0 ∧ cap = 0 ∧ zs = []) ∨
    ∃ x, a = some x ∧ len ≤ cap ∧ cap ≤ maxLen ∧ zs.length = cap ∧ (∀ i, i < zs.length → w.cell? (x.add i) = some (.int k (zs.getD i 0))) ∧ ∀ n ∈ zs, (Lit.int k n).wf = true) : (zs.take len).length = len := by
  rcases h with ⟨rfl, rfl, rfl, rfl⟩ | ⟨x, rfl, hl, hm, hz, hc, _⟩
  · rfl
  · simp; omega
theorem row_iS {w : World} {a : Option Addr} {len cap : Nat} {zs : List Int} (h : (a = none ∧ len = 0 ∧ cap = 0 ∧ zs = []) ∨
    ∃ x, a = some x ∧ len ≤ cap ∧ cap ≤ maxLen ∧ zs.length = cap ∧ (∀ i, i < zs.length → w.cell? (x.add i) = some (.int .i64 (zs.getD i 0))) ∧ ∀ n ∈ zs, (Lit.int .i64 n).wf = true) :
    RepD w (fun _ => False) (.slice a len cap) (iS (zs.take len)) := by
  have h1 := row_rep h
  have h2 := row_len h
  unfold iS
  rw [h2]
  exact h1

end Go.AG

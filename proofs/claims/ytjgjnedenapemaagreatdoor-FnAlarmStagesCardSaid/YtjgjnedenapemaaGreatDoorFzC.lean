/- a contract's results, frozen -/
import Derived.Test.YtjgjnedenapemaaGreatDoorArgs
set_option linter.unusedVariables false
set_option linter.unusedSimpArgs false
namespace Go.AG
open Go.RowKit

/-- a result and its objects, frozen one by one -/
inductive FzR : V → Objs → V → Prop where
  | done {r : V} {ob : Objs} (h : ob.all Option.isNone = true) : FzR r ob r
  | step {r r' : V} {ob : Objs} (l : Nat) (o : Ob) (ho : Live ob l o) (hi : V.immL o.cells = true) (h : FzR (r.frz (oneF l o)) ((trO (V.frz (oneF l o)) ob).set l none) r') : FzR r ob r'
theorem live_none {ob : Objs} (h : ob.all Option.isNone = true) {l : Nat} {o : Ob} (hl : Live ob l o) : False := by
  have h2 := List.all_eq_true.1 h
  unfold Live at hl
  have := h2 _ (List.mem_of_getElem? hl)
  simp at this
theorem FzR.ok {F : Fr} {w : World} {ρ : Nat → Pl} {r r' : V} {ob : Objs} {v : Value} (hf : FzR r ob r') (hh : HOk F w ρ ob) (hr : RepC w (F.Y ρ ob) ρ ob v r) : HOk F w ρ [] ∧ RepC w (F.Y ρ []) ρ [] v r' := by
  induction hf with
  | @done r ob h =>
    refine ⟨{ hh with obj := fun l o ho => by simp [Live] at ho, fresh := fun l o ho => by simp [Live] at ho, inj := fun l l' o o' ho => by simp [Live] at ho, stay := fun l o _ ho => by simp [Live] at ho }, ?_⟩
    refine hr.mono' (fun _ _ _ h => h) (fun b _ hY => ?_) (fun l o ho => (live_none h ho).elim)
    rcases hY with hx | ⟨l, o, ho, _⟩
    · exact .inl hx
    · simp [Live] at ho
  | @step r r' ob l o ho hi hs ih =>
    obtain ⟨h1, h2⟩ := hh.freeze ho hi
    exact ih h1 (h2 _ _ hr)
theorem ACalls.fz {P : Program} {f : FuncId} {args : List V} {Q Q' : V → Objs → Prop} (h : ACalls P f args [] Q) (hq : ∀ r o, Q r o → ∃ r', FzR r o r' ∧ Q' r' []) : ACalls P f args [] Q' :=
  ⟨h.1, fun w X ρ vs h0 h1 h2 h3 => (h.2 w X ρ vs h0 h1 h2 h3).mono fun e w' ⟨v, r, o, ρ', he, hQ, hh, hr⟩ => by
    obtain ⟨r', hf, hQ'⟩ := hq r o hQ
    obtain ⟨k1, k2⟩ := hf.ok hh hr
    exact ⟨v, r', [], ρ', he, hQ', k1, k2⟩⟩
end Go.AG

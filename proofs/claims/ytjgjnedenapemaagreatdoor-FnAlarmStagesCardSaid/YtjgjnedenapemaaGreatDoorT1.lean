/- library functions: a contract of the kit's is one of mine -/
import Derived.Test.YtjgjnedenapemaaGreatDoorAgZ
import Derived.Test.YtjgjnedenapemaaGreatDoorT0
import Derived.Shelf.Strings.FuncGrows
set_option linter.unusedVariables false
set_option linter.unusedSimpArgs false
namespace Go.AG
open Go Go.RowKit Go.Proofs

/-- a value that reads in one way alone -/
def rigV : V → Option Value
  | .sc v => some v
  | .fn f [] => some (.func (.func f) #[] #[])
  | _ => none
theorem rig_of {w : World} {Y : Nat → Prop} {ρ : Nat → Pl} {ob : Objs} {v x : Value} {y : V} (h : RepC w Y ρ ob v y) (hy : rigV y = some x) : v = x := by
  cases y with
  | sc z =>
    simp only [rigV, Option.some.injEq] at hy
    subst hy
    exact sc_of h
  | fn f caps =>
    cases caps with
    | nil =>
      simp only [rigV, Option.some.injEq] at hy
      subst hy
      cases h with
      | d h =>
        cases h with
        | fn hs hr => rw [Array.eq_empty_of_size_eq_zero hs]
      | fn hs hr => rw [Array.eq_empty_of_size_eq_zero hs]
    | cons a b => simp [rigV] at hy
  | _ => simp [rigV] at hy

theorem Laid.below {P : Program} {w w' : World} {X : Nat → Prop} (h : Laid P w X) (hx : ∀ b, X b → b < w.heap.size) (hb : Below w.heap.size w w') : Laid P w' X :=
  h.mono (fun _ h => h) fun b hX => hb.block b (hx b hX)

/-- a function that leaves the world below as it is -/
theorem ACalls.lib {P : Program} {f : FuncId} {args : List V} {vals : List Value} {Q : V → Prop} (hb : HasBody P f) (ha : args.map rigV = vals.map some)
    (h : ∀ (w : World) (X : Nat → Prop), Laid P w X → (∀ b, X b → b < w.heap.size) → Calls P f vals.toArray w fun e w' => ∃ v r, e = .returned v ∧ Q r ∧ Below w.heap.size w w' ∧ ∀ (Y : Nat → Prop) (ρ : Nat → Pl), (∀ b, Y b → b < w.heap.size) → RepC w' Y ρ [] v r) :
    ACalls P f args [] (fun r o => Q r ∧ o = []) := by
  refine ⟨hb, fun w X ρ vs hL hs hH hr => ?_⟩
  have hlen : args.length = vals.length := by simpa using congrArg List.length ha
  have hvs : vs = vals.toArray := by
    apply Array.ext
    · simpa using hs.trans hlen
    · intro i h1 h2
      have hi : i < args.length := by omega
      have hv : i < vals.length := by omega
      have e : rigV args[i] = some vals[i] := by
        have := congrArg (fun l => l[i]?) ha
        simpa [hi, hv] using this
      have := rig_of (hr i hi) e
      simpa [Array.getD, h1] using this
  subst hvs
  have hX : ∀ b, X b → b < w.heap.size := fun b hb => (hH.xlt b hb).1
  refine (h w X hL hX).mono ?_
  rintro e w' ⟨v, r, rfl, hq, hbl, hrep⟩
  refine ⟨v, r, [], ρ, rfl, ⟨hq, rfl⟩, hH.grow hbl, hrep _ _ fun b hb => ?_⟩
  rcases hb with hb | hb
  · exact hX b hb
  · exact absurd hb own_nil

/-- the other way: a function of mine, handed to the library -/
theorem ACalls.calls {P : Program} {f : FuncId} {args : List V} {vals : List Value} {r : V} {v : Value} (h : ACalls P f args [] (fun r' o => r' = r ∧ o = [])) (ha : args.map rigV = vals.map some) (hr : rigV r = some v)
    {w : World} {X : Nat → Prop} (hL : Laid P w X) (hX : ∀ b, X b → b < w.heap.size) : Calls P f vals.toArray w fun e w' => e = .returned v ∧ Below w.heap.size w w' := by
  have hlen : args.length = vals.length := by simpa using congrArg List.length ha
  have hs : HOk ⟨w, X, ownB (fun _ => ⟨0, 0, 0⟩) [], 0, fun _ => ⟨0, 0, 0⟩⟩ w (fun _ => ⟨0, 0, 0⟩) [] :=
    { HOk.start w (fun _ => ⟨0, 0, 0⟩) with xlt := fun b hb => ⟨hX b hb, own_nil⟩, obj := fun l o ho => by simp [Live] at ho }
  refine (h.2 w X (fun _ => ⟨0, 0, 0⟩) vals.toArray hL (by simpa using hlen.symm) hs fun i hi => ?_).mono ?_
  · have hv : i < vals.length := by omega
    have e : rigV args[i] = some vals[i] := by
      have := congrArg (fun l => l[i]?) ha
      simpa [hi, hv] using this
    have e2 : vals.toArray.getD i undef = vals[i] := by simp [Array.getD, hv]
    rw [e2]
    generalize args[i] = y at e
    generalize vals[i] = x at e
    cases y with
    | sc z =>
      simp only [rigV, Option.some.injEq] at e
      subst e
      exact .d (.sc _)
    | fn g caps =>
      cases caps with
      | nil =>
        simp only [rigV, Option.some.injEq] at e
        subst e
        exact .fn rfl fun i hi => absurd hi (by simp)
      | cons a b => simp [rigV] at e
    | _ => simp [rigV] at e
  · rintro e w' ⟨v', r', ob', ρ', rfl, ⟨rfl, rfl⟩, hh, hrr⟩
    rw [rig_of hrr hr]
    exact ⟨rfl, hh.os, hh.tape, hh.output, hh.size, fun b hb => hh.frame b hb own_nil⟩

theorem predGrows_of {P : Program} {g : FuncId} {p : Nat → Bool} (h : ∀ x : Nat, x ≤ 1114111 → ACalls P g [.sc (.int .i32 x)] [] (fun r o => r = .sc (.bool (p x)) ∧ o = []))
    {w : World} {X : Nat → Prop} (hL : Laid P w X) (hX : ∀ b, X b → b < w.heap.size) : PredGrows P g #[] p w := by
  intro W x hx hb
  exact (h x hx).calls (vals := [encR x]) rfl rfl (hL.below hX hb) (fun b h => Nat.lt_of_lt_of_le (hX b h) hb.size)

/-- a row of texts that a function has made -/
theorem rep_strs {w : World} {A n : Nat} {X' : Nat → Prop} {ss : List ByteArray} (hn : n = ss.length) (hc : ∀ i, i < ss.length → w.cell? ⟨A, i, none⟩ = some (.string (ss.getD i ⟨#[]⟩))) (hX : ¬ X' A) :
    RepD w X' (.slice (some ⟨A, 0, none⟩) n n) (.sl n (ss.map fun s => .sc (.string s))) := by
  refine .sl (fun i => .string (ss.getD i ⟨#[]⟩)) (fun i hi => ?_) (fun i hi => ?_) (fun _ => hX) (Nat.le_refl _)
  · rw [Nat.zero_add]
    exact hc i (by simpa using hi)
  · have hi2 : i < ss.length := by simpa using hi
    have : (ss.map fun s => V.sc (.string s))[i] = V.sc (.string (ss.getD i ⟨#[]⟩)) := by simp [hi2]
    rw [this]
    exact .sc _
end Go.AG

/-
  AG, merged parts J Jb Jc Jd Je. Conditions: none.
-/
import Derived.Test.YtjgjnedenapemaaGreatDoorAgI
import Derived.Deep.Quiet
import Derived.StillTail
import Derived.Lib.LaidTab
import Derived.Lib.ItoaNum
/-
  AG, part J: contracts, what a call gives its caller, and what a function gives back. Conditions: none.
-/
set_option linter.unusedSimpArgs false
set_option linter.unusedVariables false
namespace Go.AG
open Go.RowKit

mutual
def V.ren (g : Nat → Nat) : V → V
  | .ref l off len => .ref (g l) off len
  | .ptr l off => .ptr (g l) off
  | .fn f caps => .fn f (V.renL g caps)
  | .agg xs => .agg (V.renL g xs)
  | .tup xs => .tup (V.renL g xs)
  | .mp l => .mp (g l)
  | .ifc t x => .ifc t (V.ren g x)
  | .sc v => .sc v
  | .sl len xs => .sl len xs
  | .ip xs off => .ip xs off
  | .junk => .junk
def V.renL (g : Nat → Nat) : List V → List V
  | [] => []
  | x :: xs => V.ren g x :: V.renL g xs
end

mutual
def V.refs : V → List Nat
  | .ref l _ _ => [l]
  | .ptr l _ => [l]
  | .fn _ caps => V.refsL caps
  | .agg xs => V.refsL xs
  | .tup xs => V.refsL xs
  | .mp l => [l]
  | .ifc _ x => V.refs x
  | .sc _ => []
  | .sl _ _ => []
  | .ip _ _ => []
  | .junk => []
def V.refsL : List V → List Nat
  | [] => []
  | x :: xs => V.refs x ++ V.refsL xs
end

mutual
def V.flat : V → Bool
  | .sc _ => true
  | .sl _ xs => xs.isEmpty
  | .ip _ _ => false
  | .ref _ _ _ => true
  | .ptr _ _ => true
  | .fn _ caps => V.flatL caps
  | .agg xs => V.flatL xs
  | .tup xs => V.flatL xs
  | .mp _ => true
  | .ifc _ x => V.flat x
  | .junk => true
def V.flatL : List V → Bool
  | [] => true
  | x :: xs => V.flat x && V.flatL xs
end

mutual
def V.noref : V → Bool
  | .sc _ => true
  | .sl _ _ => true
  | .ip _ _ => true
  | .ref _ _ _ => false
  | .ptr _ _ => false
  | .fn _ caps => V.norefL caps
  | .agg xs => V.norefL xs
  | .tup xs => V.norefL xs
  | .mp _ => false
  | .ifc _ x => V.noref x
  | .junk => true
def V.norefL : List V → Bool
  | [] => true
  | x :: xs => V.noref x && V.norefL xs
end

theorem renL_eq (g : Nat → Nat) (xs : List V) : V.renL g xs = xs.map (V.ren g) := by
  induction xs with
  | nil => simp [V.renL]
  | cons x xs ih => simp [V.renL, ih]
theorem mem_refsL {xs : List V} {l : Nat} (i : Nat) (hi : i < xs.length) (h : l ∈ xs[i].refs) : l ∈ V.refsL xs := by
  induction xs generalizing i with
  | nil => simp at hi
  | cons x xs ih =>
    simp only [V.refsL, List.mem_append]
    cases i with
    | zero => exact .inl h
    | succ i => exact .inr (ih i (by simpa using hi) h)
theorem flatL_get {xs : List V} (h : V.flatL xs = true) (i : Nat) (hi : i < xs.length) : xs[i].flat = true := by
  induction xs generalizing i with
  | nil => simp at hi
  | cons x xs ih =>
    simp only [V.flatL, Bool.and_eq_true] at h
    cases i with
    | zero => exact h.1
    | succ i => exact ih h.2 i (by simpa using hi)
theorem norefL_get {xs : List V} (h : V.norefL xs = true) (i : Nat) (hi : i < xs.length) : xs[i].noref = true := by
  induction xs generalizing i with
  | nil => simp at hi
  | cons x xs ih =>
    simp only [V.norefL, Bool.and_eq_true] at h
    cases i with
    | zero => exact h.1
    | succ i => exact ih h.2 i (by simpa using hi)

theorem RepD.ren {w : World} {X : Nat → Prop} {v : Value} {x : V} (h : RepD w X v x) (g : Nat → Nat) : x.ren g = x := by
  induction h with
  | sc v => rfl
  | nil => rfl
  | sl0 => rfl
  | sl => rfl
  | ip => rfl
  | @fn f cs caps hs hr ih =>
    simp only [V.ren, renL_eq]
    congr 1
    apply List.ext_getElem (by simp)
    intro i h1 h2
    simp only [List.getElem_map]
    exact ih i h2

theorem RepC.ren {w : World} {Y Y' : Nat → Prop} {ρ ρ' : Nat → Pl} {ob ob' : Objs} {v : Value} {x : V} (h : RepC w Y ρ ob v x) (g : Nat → Nat)
    (hY : ∀ b, b < w.heap.size → Y' b → Y b) (hob : ∀ l, l ∈ x.refs → ∀ o, Live ob l o → ∃ o', Live ob' (g l) o' ∧ o'.esz = o.esz ∧ ρ' (g l) = ρ l) : RepC w Y' ρ' ob' v (x.ren g) := by
  induction h with
  | d h => rw [h.ren]; exact .d (h.mono (fun _ _ _ h => h) hY)
  | @ref l off len cap o ho hm hl hc hs =>
    obtain ⟨o', h1, h2, h3⟩ := hob l (by simp [V.refs]) o ho
    simp only [V.ren]
    rw [← h3]
    exact .ref h1 (by rw [h2]; exact hm) hl hc (by rw [h3, h2]; exact hs)
  | @ref0 l off o p' ho hm =>
    obtain ⟨o', h1, h2, h3⟩ := hob l (by simp [V.refs]) o ho
    simp only [V.ren]
    rw [← h3]
    exact .ref0 h1 (by rw [h2]; exact hm)
  | @ptr l off o ho hm =>
    obtain ⟨o', h1, h2, h3⟩ := hob l (by simp [V.refs]) o ho
    simp only [V.ren]
    rw [← h3]
    exact .ptr h1 (by rw [h2]; exact hm)
  | @mp l o ho hm =>
    obtain ⟨o', h1, h2, h3⟩ := hob l (by simp [V.refs]) o ho
    simp only [V.ren]
    rw [← h3]
    exact .mp h1 (h2.trans hm)
  | ifc h ih => exact .ifc (ih hob)
  | @fn f cs caps hs hr ih =>
    simp only [V.ren, renL_eq]
    exact .fn (by simpa using hs) (fun i hi => by simpa using ih i (by simpa using hi) (fun l hl => hob l (by simp only [V.refs]; exact mem_refsL i _ hl)))
  | @agg cs xs hs hr ih =>
    simp only [V.ren, renL_eq]
    exact .agg (by simpa using hs) (fun i hi => by simpa using ih i (by simpa using hi) (fun l hl => hob l (by simp only [V.refs]; exact mem_refsL i _ hl)))
  | @tup cs xs hs hr ih =>
    simp only [V.ren, renL_eq]
    exact .tup (by simpa using hs) (fun i hi => by simpa using ih i (by simpa using hi) (fun l hl => hob l (by simp only [V.refs]; exact mem_refsL i _ hl)))
  | junk => exact .junk

theorem RepD.flatY {w : World} {X X' : Nat → Prop} {v : Value} {x : V} (h : RepD w X v x) (hf : x.flat = true) : RepD w X' v x := by
  induction h with
  | sc v => exact .sc v
  | nil => exact .nil
  | sl0 a => exact .sl0 a
  | @sl b o len cap xs cs h1 hr hx hl ih =>
    simp only [V.flat, List.isEmpty_iff] at hf
    subst hf
    exact .sl cs h1 (fun i hi => absurd hi (by simp)) (fun h => absurd rfl h) hl
  | ip => simp [V.flat] at hf
  | fn hs hr ih => exact .fn hs (fun i hi => ih i hi (flatL_get hf i hi))

theorem RepC.flatY {w : World} {Y Y' : Nat → Prop} {ρ : Nat → Pl} {ob : Objs} {v : Value} {x : V} (h : RepC w Y ρ ob v x) (hf : x.flat = true) : RepC w Y' ρ ob v x := by
  induction h with
  | d h => exact .d (h.flatY hf)
  | ref ho hm hl hc hs => exact .ref ho hm hl hc hs
  | ref0 ho hm => exact .ref0 ho hm
  | ptr ho hm => exact .ptr ho hm
  | mp ho hm => exact .mp ho hm
  | ifc h ih => exact .ifc (ih hf)
  | fn hs hr ih => exact .fn hs (fun i hi => ih i hi (flatL_get hf i hi))
  | agg hs hr ih => exact .agg hs (fun i hi => ih i hi (flatL_get hf i hi))
  | tup hs hr ih => exact .tup hs (fun i hi => ih i hi (flatL_get hf i hi))
  | junk => exact .junk

mutual
theorem flat_ren (g : Nat → Nat) (x : V) : (x.ren g).flat = x.flat := by
  cases x with
  | fn f caps => simp only [V.ren, V.flat]; exact flat_renL g caps
  | agg xs => simp only [V.ren, V.flat]; exact flat_renL g xs
  | tup xs => simp only [V.ren, V.flat]; exact flat_renL g xs
  | ifc t x => simp only [V.ren, V.flat]; exact flat_ren g x
  | _ => rfl
theorem flat_renL (g : Nat → Nat) (xs : List V) : V.flatL (V.renL g xs) = V.flatL xs := by
  cases xs with
  | nil => rfl
  | cons x xs => simp only [V.renL, V.flatL]; rw [flat_ren g x, flat_renL g xs]
end

theorem RepC.unref {w : World} {Y : Nat → Prop} {ρ ρ' : Nat → Pl} {ob ob' : Objs} {v : Value} {x : V} (h : RepC w Y ρ ob v x) (hf : x.noref = true) : RepC w Y ρ' ob' v x := by
  induction h with
  | d h => exact .d h
  | ref => simp [V.noref] at hf
  | ref0 => simp [V.noref] at hf
  | ptr => simp [V.noref] at hf
  | mp => simp [V.noref] at hf
  | ifc h ih => exact .ifc (ih hf)
  | fn hs hr ih => exact .fn hs (fun i hi => ih i hi (norefL_get hf i hi))
  | agg hs hr ih => exact .agg hs (fun i hi => ih i hi (norefL_get hf i hi))
  | tup hs hr ih => exact .tup hs (fun i hi => ih i hi (norefL_get hf i hi))
  | junk => exact .junk

/-- all objects hold deep immutable values -/
def immO : Objs → Bool
  | [] => true
  | some o :: r => V.immL o.cells && immO r
  | none :: r => immO r
def flatO : Objs → Bool
  | [] => true
  | some o :: r => V.flatL o.cells && flatO r
  | none :: r => flatO r

theorem immO_live {ob : Objs} (h : immO ob = true) {l : Nat} {o : Ob} (ho : Live ob l o) : V.immL o.cells = true := by
  induction ob generalizing l with
  | nil => simp [Live] at ho
  | cons x r ih =>
    cases l with
    | zero => cases x <;> simp [Live] at ho; subst ho; simp only [immO, Bool.and_eq_true] at h; exact h.1
    | succ l =>
      have h2 : immO r = true := by cases x <;> simp only [immO, Bool.and_eq_true] at h; exact h; exact h.2
      exact ih h2 (by simpa [Live] using ho)
theorem immO_of {ob : Objs} (h : ∀ l o, Live ob l o → V.immL o.cells = true) : immO ob = true := by
  induction ob with
  | nil => rfl
  | cons x r ih =>
    have hr : immO r = true := ih (fun l o ho => h (l + 1) o (by simpa [Live] using ho))
    cases x with
    | none => exact hr
    | some o => simp only [immO, Bool.and_eq_true]; exact ⟨h 0 o rfl, hr⟩
theorem flatO_live {ob : Objs} (h : flatO ob = true) {l : Nat} {o : Ob} (ho : Live ob l o) : V.flatL o.cells = true := by
  induction ob generalizing l with
  | nil => simp [Live] at ho
  | cons x r ih =>
    cases l with
    | zero => cases x <;> simp [Live] at ho; subst ho; simp only [flatO, Bool.and_eq_true] at h; exact h.1
    | succ l =>
      have h2 : flatO r = true := by cases x <;> simp only [flatO, Bool.and_eq_true] at h; exact h; exact h.2
      exact ih h2 (by simpa [Live] using ho)

/-- an object, its references in other numbers -/
def renOb (g : Nat → Nat) (o : Ob) : Ob := ⟨o.esz, V.renL g o.cells⟩
def renO (g : Nat → Nat) : Objs → Objs
  | [] => []
  | some o :: r => some (renOb g o) :: renO g r
  | none :: r => none :: renO g r
theorem renO_eq (g : Nat → Nat) (ob : Objs) : renO g ob = ob.map fun x => x.map (renOb g) := by
  induction ob with
  | nil => rfl
  | cons x r ih => cases x <;> simp [renO, ih]
theorem length_renO (g : Nat → Nat) (ob : Objs) : (renO g ob).length = ob.length := by simp [renO_eq]
theorem live_renO {g : Nat → Nat} {ob : Objs} {l : Nat} {o' : Ob} : Live (renO g ob) l o' ↔ ∃ o, Live ob l o ∧ o' = renOb g o := by
  unfold Live
  rw [renO_eq, List.getElem?_map]
  cases h : ob[l]? with
  | none => simp
  | some x =>
    cases x with
    | none => simp
    | some o => simp; exact eq_comm
theorem renOb_length (g : Nat → Nat) (o : Ob) : (renOb g o).cells.length = o.cells.length := by simp [renOb, renL_eq]
theorem renOb_get (g : Nat → Nat) (o : Ob) (i : Nat) (h : i < (renOb g o).cells.length) : (renOb g o).cells[i] = (o.cells[i]'(by simpa [renOb_length] using h)).ren g := by simp [renOb, renL_eq]
theorem norefL_refs : ∀ {xs : List V}, V.norefL xs = true → V.refsL xs = [] := by
  have key : (∀ x : V, x.noref = true → x.refs = []) ∧ (∀ xs : List V, V.norefL xs = true → V.refsL xs = []) := by
    constructor
    · intro x
      refine V.rec (motive_1 := fun x => x.noref = true → x.refs = []) (motive_2 := fun xs => V.norefL xs = true → V.refsL xs = []) ?_ ?_ ?_ ?_ ?_ ?_ ?_ ?_ ?_ ?_ ?_ ?_ ?_ x
      all_goals intros
      all_goals first | rfl | (simp_all [V.noref, V.refs, V.norefL, V.refsL])
    · intro xs
      refine V.rec_1 (motive_1 := fun x => x.noref = true → x.refs = []) (motive_2 := fun xs => V.norefL xs = true → V.refsL xs = []) ?_ ?_ ?_ ?_ ?_ ?_ ?_ ?_ ?_ ?_ ?_ ?_ ?_ xs
      all_goals intros
      all_goals first | rfl | (simp_all [V.noref, V.refs, V.norefL, V.refsL])
  exact fun {xs} => key.2 xs
/-- the references of some cells; none where the cells' look says so -/
def refsQ (xs : List V) : List Nat := bif V.norefL xs then [] else V.refsL xs
theorem refsQ_eq (xs : List V) : refsQ xs = V.refsL xs := by
  unfold refsQ
  cases h : V.norefL xs with
  | true => exact (norefL_refs h).symm
  | false => rfl
theorem ObOk.ren {w : World} {Y Y' : Nat → Prop} {ρ ρ' : Nat → Pl} {ob ob' : Objs} {p : Pl} {o : Ob} (h : ObOk w Y ρ ob p o) (g : Nat → Nat)
    (hr : ∀ q (hq : q < o.cells.length) v, RepC w Y ρ ob v o.cells[q] → RepC w Y' ρ' ob' v (o.cells[q].ren g)) : ObOk w Y' ρ' ob' p (renOb g o) where
  cells := fun hm => by
    obtain ⟨hrow, hfit, hcell⟩ := h.cells hm
    refine ⟨hrow, by rw [renOb_length]; exact hfit, fun q hq => ?_⟩
    have hq2 : q < o.cells.length := by rw [renOb_length] at hq; exact hq
    obtain ⟨c, g1, g2, g3⟩ := hcell q hq2
    refine ⟨c, g1, ?_, g3⟩
    rw [renOb_get]
    exact hr q hq2 c g2
  map := fun hm => by
    obtain ⟨es, clock, h1, h2⟩ := h.map hm
    refine ⟨es, clock, h1, ?_⟩
    show V.renL g o.cells = _
    rw [renL_eq, h2]
    exact mpCells_map _ rfl (fun _ => rfl) es

/-- a function with a body of its own -/
def HasBody (P : Program) (f : FuncId) : Prop := ∃ fn, P.funcs[f]? = some fn ∧ (fn.name == "runtime.NumGoroutine") = false ∧ fn.body.isNone = false

/-- the package-level variables of Go's library whose contents are known where a law lists them -/
def knownVars : List (String × (Array Value → Prop)) :=
  [("internal/strconv.uint64pow10", fun cs => cs = (Lib.pow10Tab.map fun z => Value.int .u64 z).toArray),
   ("strconv.ErrRange", fun cs => ∃ t p, cs = #[.iface t p]),
   ("strconv.ErrSyntax", fun cs => ∃ t p, cs = #[.iface t p]),
   ("internal/bytealg.MaxLen", fun cs => ∃ m, cs = #[.int .i64 m])]
/-- they lie in the world, and in blocks that nobody touches -/
def Laid (P : Program) (w : World) (X : Nat → Prop) : Prop :=
  ∀ q ∈ knownVars, ∀ g, P.globalNamed q.1 = some g → X g ∧ ∃ cs e fz, w.heap[g]? = some (.cells cs e fz) ∧ q.2 cs
theorem laidOut {p : Prop} (h : Nonempty (PLift p)) : p := h.elim fun x => x.down
theorem Laid.mono {P : Program} {w w' : World} {X X' : Nat → Prop} (h : Laid P w X) (hX : ∀ b, X b → X' b) (hw : ∀ b, X b → w'.heap[b]? = w.heap[b]?) : Laid P w' X' := by
  intro q hq g hg
  obtain ⟨h1, cs, e, fz, h2, h3⟩ := h q hq g hg
  exact ⟨hX g h1, cs, e, fz, by rw [hw g h1]; exact h2, h3⟩
theorem Laid.none {P : Program} {w : World} {X : Nat → Prop} (h : (knownVars.all fun q => (P.globalNamed q.1).isNone) = true) : Laid P w X := by
  intro q hq g hg
  have := List.all_eq_true.1 h q hq
  rw [hg] at this
  cases this
theorem Laid.var {P : Program} {w : World} {X : Nat → Prop} (h : Laid P w X) {n : String} {q : Array Value → Prop} (hq : (n, q) ∈ knownVars) {g : Nat} (hg : P.globalNamed n = some g) : ∃ cs, w.var? P n = some cs ∧ q cs := by
  obtain ⟨_, cs, e, fz, h2, h3⟩ := h _ hq g hg
  exact ⟨cs, by simp [World.var?, hg, h2], h3⟩

/-- THE CONTRACT: called with values that read as 'args' (objects of the caller's: 'ob'), the function returns; its result and the objects behind the call are as Q says -/
def ACalls (P : Program) (f : FuncId) (args : List V) (ob : Objs) (Q : V → Objs → Prop) : Prop :=
  HasBody P f ∧ ∀ (w : World) (X : Nat → Prop) (ρ : Nat → Pl) (vs : Array Value), Laid P w X → vs.size = args.length →
    HOk ⟨w, X, ownB ρ ob, ob.length, ρ⟩ w ρ ob →
    (∀ i (h : i < args.length), RepC w (Fr.Y ⟨w, X, ownB ρ ob, ob.length, ρ⟩ ρ ob) ρ ob (vs.getD i undef) args[i]) →
    Calls P f vs w fun e w' => ∃ v r ob' ρ', e = .returned v ∧ Q r ob' ∧ HOk ⟨w, X, ownB ρ ob, ob.length, ρ⟩ w' ρ' ob' ∧
      RepC w' (Fr.Y ⟨w, X, ownB ρ ob, ob.length, ρ⟩ ρ' ob') ρ' ob' v r

theorem ACalls.mono {P : Program} {f : FuncId} {args : List V} {ob : Objs} {Q Q' : V → Objs → Prop} (h : ACalls P f args ob Q) (hq : ∀ r o, Q r o → Q' r o) : ACalls P f args ob Q' :=
  ⟨h.1, fun w X ρ vs h0 h1 h2 h3 => (h.2 w X ρ vs h0 h1 h2 h3).mono fun e w' ⟨v, r, o, ρ', he, hQ, hh, hr⟩ => ⟨v, r, o, ρ', he, hq r o hQ, hh, hr⟩⟩

/-- the objects that can be looked at from outside -/
def viewF (ob : Objs) : Nat → Option Ob := fun l => match ob[l]? with
  | some (some o) => bif V.immL o.cells then some o else none
  | _ => none

theorem viewF_some {ob : Objs} {l : Nat} {o : Ob} (h : viewF ob l = some o) : Live ob l o ∧ V.immL o.cells = true := by
  unfold viewF at h
  split at h
  · rename_i o' ho
    cases hb : V.immL o'.cells with
    | true => simp [hb] at h; subst h; exact ⟨ho, hb⟩
    | false => simp [hb] at h
  · cases h

section
variable {P : Program} {F : Fr} {s : AState} {ρ : Nat → Pl} {a : Act} {w : World}

theorem own_nil {ρ : Nat → Pl} {b : Nat} : ¬ ownB ρ [] b := by
  rintro ⟨l, o, h, _⟩
  simp [Live] at h

theorem live_app {ob ob' : Objs} {l : Nat} {o : Ob} : Live (ob ++ ob') l o ↔ (Live ob l o ∨ (ob.length ≤ l ∧ Live ob' (l - ob.length) o)) := by
  unfold Live
  rw [List.getElem?_append]
  split
  · rename_i h
    constructor
    · exact .inl
    · rintro (h' | ⟨h', _⟩)
      · exact h'
      · omega
  · rename_i h
    constructor
    · intro h'; exact .inr ⟨by omega, h'⟩
    · rintro (h' | ⟨_, h'⟩)
      · rw [List.getElem?_eq_none (by omega)] at h'; cases h'
      · exact h'

theorem HOk.laid (h : HOk F w ρ s.ob) (hL : Laid P F.W F.X) {X : Nat → Prop} (hX : ∀ b, F.X b → X b) : Laid P w X :=
  hL.mono hX fun b hb => h.frame b (h.xlt b hb).1 (h.xlt b hb).2

/-- the world from which a pure callee sets out -/
theorem Sat.callee (h : Sat F s ρ a w) (X : Nat → Prop) (hX : ∀ b, X b → F.Y ρ s.ob b) : HOk ⟨w, X, ownB ρ [], 0, ρ⟩ w ρ [] where
  os := rfl
  tape := rfl
  output := rfl
  size := Nat.le_refl _
  frame := fun _ _ _ => rfl
  xlt := fun b hb => by
    refine ⟨?_, own_nil⟩
    rcases hX b hb with h1 | ⟨l, o, ho, rfl⟩
    · exact Nat.lt_of_lt_of_le (h.heap.xlt b h1).1 h.heap.size
    · exact h.heap.blk_lt ho
  obj := fun l o ho => by simp [Live] at ho
  fresh := fun l o ho => by simp [Live] at ho
  inj := fun l _ o _ ho => by simp [Live] at ho
  stay := fun l o _ ho => by simp [Live] at ho

/-- what a pure call leaves its caller -/
theorem Sat.called (h : Sat F s ρ a w) {X : Nat → Prop} {w' : World} {ρ1 : Nat → Pl} {ob1 : Objs} {v : Value} {r : V}
    (hh : HOk ⟨w, X, ownB ρ [], 0, ρ⟩ w' ρ1 ob1) (hr : RepC w' (Fr.Y ⟨w, X, ownB ρ [], 0, ρ⟩ ρ1 ob1) ρ1 ob1 v r)
    (hc : (∀ b, F.Y ρ s.ob b → X b) ∨ (r.flat = true ∧ flatO ob1 = true)) :
    ∃ ρ2, Sat F { s with ob := s.ob ++ renO (fun l => l + s.ob.length) ob1 } ρ2 a w' ∧ RepC w' (F.Y ρ2 (s.ob ++ renO (fun l => l + s.ob.length) ob1)) ρ2 (s.ob ++ renO (fun l => l + s.ob.length) ob1) v (r.ren fun l => l + s.ob.length) ∧
      Moved [] s ρ w { s with ob := s.ob ++ renO (fun l => l + s.ob.length) ob1 } ρ2 w' := by
  let ρ2 : Nat → Pl := fun l => if l < s.ob.length then ρ l else ρ1 (l - s.ob.length)
  have h2a : ∀ l, l < s.ob.length → ρ2 l = ρ l := fun l hl => if_pos hl
  have h2b : ∀ l, s.ob.length ≤ l → ρ2 l = ρ1 (l - s.ob.length) := fun l hl => if_neg (by omega)
  generalize hob2 : renO (fun l => l + s.ob.length) ob1 = ob2
  have hl2 : ∀ {l o'}, Live ob2 l o' → ∃ o, Live ob1 l o ∧ o' = renOb (fun l => l + s.ob.length) o := fun h => by rw [← hob2] at h; exact live_renO.1 h
  have hl2' : ∀ {l o}, Live ob1 l o → Live ob2 l (renOb (fun l => l + s.ob.length) o) := fun h => by rw [← hob2]; exact live_renO.2 ⟨_, h, rfl⟩
  have hfr : ∀ b, b < w.heap.size → w'.heap[b]? = w.heap[b]? := fun b hb => hh.frame b hb own_nil
  have hfresh : ∀ l o, Live ob1 l o → w.heap.size ≤ (ρ1 l).blk := fun l o ho => by
    rcases hh.fresh l o ho with h1 | h1
    · exact absurd h1 own_nil
    · exact h1
  have hY : ∀ b, b < w.heap.size → F.Y ρ2 (s.ob ++ ob2) b → F.Y ρ s.ob b := by
    rintro b hb (hx | ⟨l, o, ho, he⟩)
    · exact .inl hx
    · rcases live_app.1 ho with ho | ⟨hle, ho⟩
      · rw [h2a l (live_lt ho)] at he; exact .inr ⟨l, o, ho, he⟩
      · obtain ⟨o1, ho, _⟩ := hl2 ho
        rw [h2b l hle] at he; have := hfresh _ o1 ho; omega
  have hYn : ∀ b, F.Y ρ2 (s.ob ++ ob2) b → F.Y ρ s.ob b ∨ ownB ρ1 ob1 b := by
    rintro b (hx | ⟨l, o, ho, he⟩)
    · exact .inl (.inl hx)
    · rcases live_app.1 ho with ho | ⟨hle, ho⟩
      · rw [h2a l (live_lt ho)] at he; exact .inl (.inr ⟨l, o, ho, he⟩)
      · obtain ⟨o1, ho, _⟩ := hl2 ho
        rw [h2b l hle] at he; exact .inr ⟨_, o1, ho, he⟩
  have hτ : ∀ v x, RepC w (F.Y ρ s.ob) ρ s.ob v x → RepC w' (F.Y ρ2 (s.ob ++ ob2)) ρ2 (s.ob ++ ob2) v x := by
    intro v x hx
    exact hx.mono' (fun a c _ hcell => by
      rw [← hcell]; exact World.cell?_of_block (hfr _ (World.block_lt_of_cell? w a hcell))) hY (fun l o ho => ⟨o, live_app.2 (.inl ho), rfl, h2a l (live_lt ho)⟩)
  have hD : ∀ c x, RepC w' (Fr.Y ⟨w, X, ownB ρ [], 0, ρ⟩ ρ1 ob1) ρ1 ob1 c x → ((∀ b, F.Y ρ s.ob b → X b) ∨ x.flat = true) → RepC w' (F.Y ρ2 (s.ob ++ ob2)) ρ2 (s.ob ++ ob2) c (x.ren fun l => l + s.ob.length) := by
    intro c x hx hc
    have hren : RepC w' (Fr.Y ⟨w, X, ownB ρ [], 0, ρ⟩ ρ1 ob1) ρ2 (s.ob ++ ob2) c (x.ren fun l => l + s.ob.length) :=
      hx.ren _ (fun _ _ h => h) (fun l _ o ho => ⟨renOb (fun l => l + s.ob.length) o, live_app.2 (.inr ⟨by omega, by simpa using hl2' ho⟩), rfl, by rw [h2b _ (by omega)]; simp⟩)
    rcases hc with hc | hc
    · exact hren.mono' (fun _ _ _ h => h) (fun b _ hb => by
        rcases hYn b hb with h1 | h1
        · exact .inl (hc b h1)
        · exact .inr h1) (fun l o ho => ⟨o, ho, rfl, rfl⟩)
    · have hfl : (x.ren fun l => l + s.ob.length).flat = true := by rw [flat_ren]; exact hc
      exact hren.flatY hfl
  have hk : HOk F w' ρ2 (s.ob ++ ob2) := by
    refine h.heap.step id hh.os hh.tape hh.output hh.size (fun b hb hio => hfr b (Nat.lt_of_lt_of_le hb h.heap.size)) hτ (fun l o ho => ?_) (fun l l' o o' ho ho' he => ?_)
    · rcases live_app.1 ho with ho | ⟨hle, ho⟩
      · exact .inl ⟨o, ho, by simp, h2a l (live_lt ho), hfr _ (h.heap.blk_lt ho)⟩
      · obtain ⟨o1, ho1, rfl⟩ := hl2 ho
        rw [h2b l hle]
        refine .inr ⟨(hh.obj _ o1 ho1).ren _ fun i hi2 c g2 => ?_, .inr (Nat.le_trans h.heap.size (hfresh _ o1 ho1)), fun hlt => ?_⟩
        · refine hD _ _ g2 ?_
          rcases hc with hc | ⟨_, hc⟩
          · exact .inl hc
          · exact .inr (flatL_get (flatO_live hc ho1) i hi2)
        · have := h.kle; omega
    · rcases live_app.1 ho with ho | ⟨hle, ho⟩ <;> rcases live_app.1 ho' with ho' | ⟨hle', ho'⟩
      · rw [h2a _ (live_lt ho), h2a _ (live_lt ho')] at he; exact h.heap.inj _ _ _ _ ho ho' he
      · obtain ⟨_, ho', _⟩ := hl2 ho'
        rw [h2a _ (live_lt ho), h2b _ hle'] at he
        have := h.heap.blk_lt ho; have := hfresh _ _ ho'; omega
      · obtain ⟨_, ho, _⟩ := hl2 ho
        rw [h2a _ (live_lt ho'), h2b _ hle] at he
        have := h.heap.blk_lt ho'; have := hfresh _ _ ho; omega
      · obtain ⟨_, ho, _⟩ := hl2 ho
        obtain ⟨_, ho', _⟩ := hl2 ho'
        rw [h2b _ hle, h2b _ hle'] at he
        have := hh.inj _ _ _ _ ho ho' he; omega
  refine ⟨ρ2, h.of_heap_id hk (by simpa using Nat.le_trans h.kle (Nat.le_add_right _ _)) hτ, ?_, ⟨hh.size, fun b hb _ => hfr b hb, fun l o' ho => by
    rcases live_app.1 ho with ho | ⟨hle, ho⟩
    · exact .inl ⟨o', ho, by rw [h2a l (live_lt ho)]⟩
    · obtain ⟨o1, ho, _⟩ := hl2 ho
      exact .inr (by rw [h2b l hle]; exact hfresh _ o1 ho)⟩⟩
  refine hD _ _ hr ?_
  rcases hc with hc | ⟨hc, _⟩
  · exact .inl hc
  · exact .inr hc

end
end Go.AG

/-
  AG, part Jb: calls that are handed some of the caller's own objects, to be written. Conditions: none.
-/
set_option linter.unusedSimpArgs false
set_option linter.unusedVariables false
namespace Go.AG
open Go.RowKit

def obAt (ob : Objs) (l : Nat) : Option Ob := match ob[l]? with
  | some (some o) => some o
  | _ => none

theorem obAt_live {ob : Objs} {l : Nat} {o : Ob} : obAt ob l = some o ↔ Live ob l o := by
  unfold obAt Live
  split
  · rename_i o' h; rw [h]; simp
  · rename_i h
    constructor
    · intro h'; cases h'
    · intro h'; exact absurd h' (h o)

def nodupB : List Nat → Bool
  | [] => true
  | x :: r => !(r.elem x) && nodupB r

theorem nodupB_inj {ls : List Nat} (h : nodupB ls = true) {i j : Nat} (hi : i < ls.length) (hj : j < ls.length) (he : ls[i] = ls[j]) : i = j := by
  induction ls generalizing i j with
  | nil => simp at hi
  | cons x r ih =>
    simp only [nodupB, Bool.and_eq_true, Bool.not_eq_true', List.elem_eq_mem, decide_eq_false_iff_not] at h
    cases i with
    | zero => cases j with
      | zero => rfl
      | succ j => simp at he; exact absurd (he ▸ List.getElem_mem (by simpa using hj)) h.1
    | succ i => cases j with
      | zero => simp at he; exact absurd (he ▸ List.getElem_mem (by simpa using hi)) h.1
      | succ j => simp at he; have := ih h.2 (by simpa using hi) (by simpa using hj) he; omega

/-- a number is among some -/
def elemN (x : Nat) : List Nat → Bool
  | [] => false
  | y :: r => Nat.beq x y || elemN x r
theorem elemN_iff {x : Nat} {l : List Nat} : elemN x l = true ↔ x ∈ l := by
  induction l with
  | nil => simp [elemN]
  | cons y r ih => simp [elemN, ih]
def subB : List Nat → List Nat → Bool
  | [], _ => true
  | x :: r, ys => elemN x ys && subB r ys
theorem subB_iff {xs ys : List Nat} : subB xs ys = true ↔ ∀ x ∈ xs, x ∈ ys := by
  induction xs with
  | nil => simp [subB]
  | cons x r ih => simp [subB, ih, elemN_iff]
/-- the objects ls are there, and what they refer to is among 'all' -/
def liveClo (ob : Objs) (all : List Nat) : List Nat → Bool
  | [] => true
  | l :: r => (match obAt ob l with | some o => subB (refsQ o.cells) all | none => false) && liveClo ob all r

theorem liveClo_mem {ob : Objs} {all ls : List Nat} (h : liveClo ob all ls = true) {l : Nat} (hl : l ∈ ls) : ∃ o, Live ob l o ∧ obAt ob l = some o ∧ ∀ x ∈ V.refsL o.cells, x ∈ all := by
  induction ls with
  | nil => simp at hl
  | cons x r ih =>
    simp only [liveClo, Bool.and_eq_true] at h
    rcases List.mem_cons.1 hl with rfl | hl
    · have h1 := h.1
      cases ho : obAt ob l with
      | none => rw [ho] at h1; simp at h1
      | some o =>
        rw [ho] at h1
        exact ⟨o, obAt_live.1 ho, rfl, by rw [← refsQ_eq]; exact subB_iff.1 h1⟩
    · exact ih h.2 hl

/-- the objects that came back have their places and their elements' sizes -/
def ioOk (ob : Objs) : List Nat → Objs → Prop
  | [], _ => True
  | l :: ls, some o' :: r => (match obAt ob l with | some o => o'.esz = o.esz | none => False) ∧ ioOk ob ls r
  | _ :: _, _ => False

theorem ioOk_get {ob : Objs} {ls : List Nat} {ob' : Objs} (h : ioOk ob ls ob') (i : Nat) (hi : i < ls.length) : ∃ o o', Live ob ls[i] o ∧ Live ob' i o' ∧ o'.esz = o.esz := by
  induction ls generalizing ob' i with
  | nil => simp at hi
  | cons l ls ih =>
    cases ob' with
    | nil => exact h.elim
    | cons x r =>
      cases x with
      | none => exact h.elim
      | some o' =>
        obtain ⟨h1, h2⟩ := h
        cases i with
        | zero =>
          cases ho : obAt ob l with
          | none => rw [ho] at h1; exact h1.elim
          | some o => rw [ho] at h1; exact ⟨o, o', obAt_live.1 ho, rfl, h1⟩
        | succ i =>
          obtain ⟨o, o2, g1, g2, g3⟩ := ih h2 i (by simpa using hi)
          exact ⟨o, o2, by simpa using g1, by simpa [Live] using g2, g3⟩

theorem ioOk_len {ob : Objs} {ls : List Nat} {ob' : Objs} (h : ioOk ob ls ob') : ls.length ≤ ob'.length := by
  induction ls generalizing ob' with
  | nil => simp
  | cons l ls ih =>
    cases ob' with
    | nil => exact h.elim
    | cons x r => cases x with
      | none => exact h.elim
      | some o' => have := ih h.2; simp; omega

def putAll (ob : Objs) : List Nat → Objs → Objs
  | l :: ls, o :: r => putAll (ob.set l o) ls r
  | _, _ => ob

theorem length_putAll (ob : Objs) (ls : List Nat) (r : Objs) : (putAll ob ls r).length = ob.length := by
  induction ls generalizing ob r with
  | nil => simp [putAll]
  | cons l ls ih => cases r with
    | nil => simp [putAll]
    | cons o r => simp only [putAll]; rw [ih]; simp

theorem putAll_out {ob : Objs} {ls : List Nat} {r : Objs} {l : Nat} (h : l ∉ ls) : (putAll ob ls r)[l]? = ob[l]? := by
  induction ls generalizing ob r with
  | nil => simp [putAll]
  | cons x ls ih => cases r with
    | nil => simp [putAll]
    | cons o r =>
      simp only [putAll]
      rw [ih (fun h' => h (by simp [h'])), List.getElem?_set, if_neg (fun e => h (by simp [e]))]

theorem putAll_in {ob : Objs} {ls : List Nat} {r : Objs} (hn : nodupB ls = true) (hlen : ls.length ≤ r.length) (hl : ∀ l ∈ ls, l < ob.length) (i : Nat) (hi : i < ls.length) : (putAll ob ls r)[ls[i]]? = r[i]? := by
  induction ls generalizing ob r i with
  | nil => simp at hi
  | cons x ls ih => cases r with
    | nil => simp at hlen
    | cons o r =>
      simp only [nodupB, Bool.and_eq_true, Bool.not_eq_true', List.elem_eq_mem, decide_eq_false_iff_not] at hn
      simp only [putAll]
      cases i with
      | zero =>
        simp only [List.getElem_cons_zero]
        rw [putAll_out hn.1, List.getElem?_set, if_pos rfl, if_pos (hl x (by simp))]
        rfl
      | succ i =>
        simp only [List.getElem_cons_succ, List.getElem?_cons_succ]
        exact ih hn.2 (by simpa using hlen) (fun l h => by simpa using hl l (by simp [h])) i (by simpa using hi)

/-- a callee's number of an object, in its caller's numbers -/
def ioN (ls : List Nat) (n0 : Nat) (l : Nat) : Nat := bif Nat.blt l ls.length then ls.getD l 0 else n0 + (l - ls.length)

theorem ioN_lt {ls : List Nat} {n0 l : Nat} (h : l < ls.length) : ioN ls n0 l = ls[l] := by
  unfold ioN
  have : Nat.blt l ls.length = true := by simp [Nat.blt, Nat.ble_eq]; omega
  simp [this, List.getD, h]
theorem ioN_ge {ls : List Nat} {n0 l : Nat} (h : ls.length ≤ l) : ioN ls n0 l = n0 + (l - ls.length) := by
  unfold ioN
  have : Nat.blt l ls.length = false := by
    cases hb : Nat.blt l ls.length with
    | false => rfl
    | true => simp [Nat.blt, Nat.ble_eq] at hb; omega
  simp [this]

section
variable {P : Program} {F : Fr} {s : AState} {ρ : Nat → Pl} {a : Act} {w : World}

/-- what a callee must not touch: what the caller must not, and the caller's other objects -/
def ioX (F : Fr) (ρ : Nat → Pl) (ob : Objs) (ls : List Nat) (b : Nat) : Prop := F.X b ∨ ∃ l o, Live ob l o ∧ l ∉ ls ∧ (ρ l).blk = b
def ioρ (ρ : Nat → Pl) (ls : List Nat) : Nat → Pl := fun i => ρ (ls.getD i 0)

theorem live_map {ob : Objs} {ls : List Nat} {i : Nat} {o : Ob} : Live (ls.map (obAt ob)) i o ↔ ∃ hi : i < ls.length, Live ob ls[i] o := by
  unfold Live
  rw [List.getElem?_map]
  by_cases hi : i < ls.length
  · simp only [List.getElem?_eq_getElem hi, Option.map_some, Option.some.injEq]
    rw [obAt_live]
    exact ⟨fun h => ⟨hi, h⟩, fun ⟨_, h⟩ => h⟩
  · simp [hi]
/-- the objects ls, in a callee's numbers -/
def ioOb (ob : Objs) (ls : List Nat) : Objs := renO (ls.idxOf ·) (ls.map (obAt ob))
theorem length_ioOb (ob : Objs) (ls : List Nat) : (ioOb ob ls).length = ls.length := by simp [ioOb, length_renO]
theorem live_ioOb {ob : Objs} {ls : List Nat} {i : Nat} {o' : Ob} : Live (ioOb ob ls) i o' ↔ ∃ hi : i < ls.length, ∃ o, Live ob ls[i] o ∧ o' = renOb (ls.idxOf ·) o := by
  unfold ioOb
  rw [live_renO]
  constructor
  · rintro ⟨o, ho, rfl⟩
    obtain ⟨hi, ho⟩ := live_map.1 ho
    exact ⟨hi, o, ho, rfl⟩
  · rintro ⟨hi, o, ho, rfl⟩
    exact ⟨o, live_map.2 ⟨hi, ho⟩, rfl⟩

theorem ioOb_own {ρ : Nat → Pl} {ob : Objs} {ls : List Nat} {b : Nat} (h : ownB (ioρ ρ ls) (ioOb ob ls) b) : ∃ l o, l ∈ ls ∧ Live ob l o ∧ (ρ l).blk = b := by
  obtain ⟨i, o, ho, he⟩ := h
  obtain ⟨hi, o1, ho, _⟩ := live_ioOb.1 ho
  refine ⟨ls[i], o1, List.getElem_mem hi, ho, ?_⟩
  rw [← he]; simp [ioρ, List.getD, hi]

theorem Sat.argIO (h : Sat F s ρ a w) {ls : List Nat} {v : Value} {x : V} (hr : RepC w (F.Y ρ s.ob) ρ s.ob v x) (hx : ∀ l ∈ x.refs, l ∈ ls) :
    RepC w (Fr.Y ⟨w, ioX F ρ s.ob ls, ownB (ioρ ρ ls) (ioOb s.ob ls), (ioOb s.ob ls).length, ioρ ρ ls⟩ (ioρ ρ ls) (ioOb s.ob ls)) (ioρ ρ ls) (ioOb s.ob ls) v (x.ren (ls.idxOf ·)) := by
  refine hr.ren _ (fun b _ hb => ?_) (fun l hl o ho => ?_)
  · rcases hb with (hb | ⟨l, o, ho, _, he⟩) | hb
    · exact .inl hb
    · exact .inr ⟨l, o, ho, he⟩
    · obtain ⟨l, o, _, ho, he⟩ := ioOb_own hb
      exact .inr ⟨l, o, ho, he⟩
  · have hm := hx l hl
    have hi := List.idxOf_lt_length_iff.2 hm
    have hg : ls[ls.idxOf l] = l := List.getElem_idxOf hi
    refine ⟨_, live_ioOb.2 ⟨hi, o, by rw [hg]; exact ho, rfl⟩, rfl, ?_⟩
    simp only [ioρ, List.getD, List.getElem?_eq_getElem hi, Option.getD_some, hg]

theorem Sat.calleeIO (h : Sat F s ρ a w) {ls : List Nat} (hn : nodupB ls = true) (hl : liveClo s.ob ls ls = true) :
    HOk ⟨w, ioX F ρ s.ob ls, ownB (ioρ ρ ls) (ioOb s.ob ls), (ioOb s.ob ls).length, ioρ ρ ls⟩ w (ioρ ρ ls) (ioOb s.ob ls) where
  os := rfl
  tape := rfl
  output := rfl
  size := Nat.le_refl _
  frame := fun _ _ _ => rfl
  xlt := fun b hb => by
    have hio : ∀ b, ownB (ioρ ρ ls) (ioOb s.ob ls) b → ∃ l o, l ∈ ls ∧ Live s.ob l o ∧ (ρ l).blk = b := fun b hb => ioOb_own hb
    rcases hb with hb | ⟨l, o, ho, hnm, rfl⟩
    · refine ⟨Nat.lt_of_lt_of_le (h.heap.xlt b hb).1 h.heap.size, fun hio' => ?_⟩
      obtain ⟨l, o, _, ho, rfl⟩ := hio b hio'
      exact h.heap.notX ho hb
    · refine ⟨h.heap.blk_lt ho, fun hio' => ?_⟩
      obtain ⟨l', o', hm, ho', he⟩ := hio _ hio'
      have := h.heap.inj _ _ _ _ ho' ho he
      exact hnm (this ▸ hm)
  obj := fun i o' ho => by
    obtain ⟨hi, o, ho2, rfl⟩ := live_ioOb.1 ho
    obtain ⟨o2, g1, _, g3⟩ := liveClo_mem hl (List.getElem_mem hi)
    have eo : o2 = o := by unfold Live at g1 ho2; rw [ho2] at g1; cases g1; rfl
    subst eo
    have hρ : ioρ ρ ls i = ρ ls[i] := by simp [ioρ, List.getD, hi]
    rw [hρ]
    refine (h.heap.obj _ o2 ho2).ren _ fun j hj2 c q2 => ?_
    exact h.argIO q2 (fun l hl2 => g3 l (mem_refsL j hj2 hl2))
  fresh := fun i o ho => by
    obtain ⟨hi, _⟩ := live_ioOb.1 ho
    exact .inl ⟨i, o, ho, rfl⟩
  inj := fun i j o o' ho ho' he => by
    obtain ⟨hi, o1, ho, _⟩ := live_ioOb.1 ho
    obtain ⟨hj, o2, ho', _⟩ := live_ioOb.1 ho'
    simp only [ioρ, List.getD, hi, hj, List.getElem?_eq_getElem, Option.getD_some] at he
    exact nodupB_inj hn hi hj (h.heap.inj _ _ _ _ ho ho' he)
  stay := fun _ _ _ _ => rfl

/-- what such a call leaves its caller -/
theorem Sat.calledIO (h : Sat F s ρ a w) {ls : List Nat} (hn : nodupB ls = true) (hl : liveClo s.ob ls ls = true) {w' : World} {ρ1 : Nat → Pl} {ob1 : Objs} {v : Value} {r : V}
    (hh : HOk ⟨w, ioX F ρ s.ob ls, ownB (ioρ ρ ls) (ioOb s.ob ls), (ioOb s.ob ls).length, ioρ ρ ls⟩ w' ρ1 ob1)
    (hr : RepC w' (Fr.Y ⟨w, ioX F ρ s.ob ls, ownB (ioρ ρ ls) (ioOb s.ob ls), (ioOb s.ob ls).length, ioρ ρ ls⟩ ρ1 ob1) ρ1 ob1 v r) (hok : ioOk s.ob ls ob1) :
    ∃ ρ2, Sat F { s with ob := putAll s.ob ls (renO (ioN ls s.ob.length) ob1) ++ (renO (ioN ls s.ob.length) ob1).drop ls.length } ρ2 a w' ∧
      RepC w' (F.Y ρ2 (putAll s.ob ls (renO (ioN ls s.ob.length) ob1) ++ (renO (ioN ls s.ob.length) ob1).drop ls.length)) ρ2 (putAll s.ob ls (renO (ioN ls s.ob.length) ob1) ++ (renO (ioN ls s.ob.length) ob1).drop ls.length) v (r.ren (ioN ls s.ob.length)) ∧
      Moved ls s ρ w { s with ob := putAll s.ob ls (renO (ioN ls s.ob.length) ob1) ++ (renO (ioN ls s.ob.length) ob1).drop ls.length } ρ2 w' := by
  let ρ2 : Nat → Pl := fun l => if l < s.ob.length then ρ l else ρ1 (ls.length + (l - s.ob.length))
  have h2a : ∀ l, l < s.ob.length → ρ2 l = ρ l := fun l hl => if_pos hl
  have h2b : ∀ l, s.ob.length ≤ l → ρ2 l = ρ1 (ls.length + (l - s.ob.length)) := fun l hl => if_neg (by omega)
  generalize hob2 : renO (ioN ls s.ob.length) ob1 = ob2
  have hl2 : ∀ {l o'}, Live ob2 l o' → ∃ o, Live ob1 l o ∧ o' = renOb (ioN ls s.ob.length) o := fun h => by rw [← hob2] at h; exact live_renO.1 h
  have hl2' : ∀ {l o}, Live ob1 l o → Live ob2 l (renOb (ioN ls s.ob.length) o) := fun h => by rw [← hob2]; exact live_renO.2 ⟨_, h, rfl⟩
  have hlive : ∀ l ∈ ls, ∃ o, Live s.ob l o := fun l hm => by obtain ⟨o, g, _⟩ := liveClo_mem hl hm; exact ⟨o, g⟩
  have hlt : ∀ l ∈ ls, l < s.ob.length := fun l hm => by obtain ⟨o, g⟩ := hlive l hm; exact live_lt g
  have hρ1 : ∀ i o, i < ls.length → Live ob1 i o → ρ1 i = ρ (ls.getD i 0) := fun i o hi ho => hh.stay i o (by simpa [length_ioOb] using hi) ho
  have hlen : ls.length ≤ ob2.length := by rw [← hob2, length_renO]; exact ioOk_len hok
  have hpl : (putAll s.ob ls ob2).length = s.ob.length := length_putAll _ _ _
  -- the objects behind the call
  have hcase : ∀ {l o}, Live (putAll s.ob ls ob2 ++ ob2.drop ls.length) l o →
      (l < s.ob.length ∧ l ∉ ls ∧ Live s.ob l o) ∨ (∃ i, ∃ hi : i < ls.length, l = ls[i] ∧ ∃ o1, Live ob1 i o1 ∧ o = renOb (ioN ls s.ob.length) o1) ∨ (s.ob.length ≤ l ∧ ∃ o1, Live ob1 (ls.length + (l - s.ob.length)) o1 ∧ o = renOb (ioN ls s.ob.length) o1) := by
    intro l o ho
    rcases live_app.1 ho with ho | ⟨hle, ho⟩
    · have hlt2 := live_lt ho
      rw [hpl] at hlt2
      by_cases hm : l ∈ ls
      · obtain ⟨i, hi, rfl⟩ := List.mem_iff_getElem.1 hm
        unfold Live at ho
        rw [putAll_in hn hlen hlt i hi] at ho
        exact .inr (.inl ⟨i, hi, rfl, hl2 ho⟩)
      · unfold Live at ho
        rw [putAll_out hm] at ho
        exact .inl ⟨hlt2, hm, ho⟩
    · rw [hpl] at hle ho
      refine .inr (.inr ⟨hle, hl2 ?_⟩)
      unfold Live at ho ⊢
      rwa [List.getElem?_drop] at ho
  have hback : ∀ {l o}, Live s.ob l o → ∃ o', Live (putAll s.ob ls ob2 ++ ob2.drop ls.length) l o' ∧ o'.esz = o.esz := by
    intro l o ho
    have hlt2 := live_lt ho
    by_cases hm : l ∈ ls
    · obtain ⟨i, hi, rfl⟩ := List.mem_iff_getElem.1 hm
      obtain ⟨o1, o', g1, g2, g3⟩ := ioOk_get hok i hi
      have : o1 = o := by unfold Live at g1 ho; rw [ho] at g1; cases g1; rfl
      subst this
      refine ⟨renOb (ioN ls s.ob.length) o', live_app.2 (.inl ?_), g3⟩
      unfold Live
      rw [putAll_in hn hlen hlt i hi]; exact (hl2' g2 : Live ob2 i _)
    · refine ⟨o, live_app.2 (.inl ?_), rfl⟩
      unfold Live
      rw [putAll_out hm]; exact ho
  have hio : ∀ b, ownB (ioρ ρ ls) (ioOb s.ob ls) b → ∃ l o, l ∈ ls ∧ Live s.ob l o ∧ (ρ l).blk = b := fun b hb => ioOb_own hb
  have hfr : ∀ b, b < w.heap.size → (∀ l o, l ∈ ls → Live s.ob l o → (ρ l).blk ≠ b) → w'.heap[b]? = w.heap[b]? := fun b hb hno =>
    hh.frame b hb (fun hb2 => by obtain ⟨l, o, h1, h2, h3⟩ := hio b hb2; exact hno l o h1 h2 h3)
  have hfresh : ∀ j o, ls.length ≤ j → Live ob1 j o → w.heap.size ≤ (ρ1 j).blk := fun j o hj ho => by
    rcases hh.fresh j o ho with h1 | h1
    · exfalso
      obtain ⟨i, oi, hoi, he⟩ := h1
      obtain ⟨hi, _⟩ := live_ioOb.1 hoi
      obtain ⟨_, o', _, g2, _⟩ := ioOk_get hok i hi
      have hst := hh.stay i o' (by simpa [length_ioOb] using hi) g2
      have := hh.inj i j o' o g2 ho (by rw [hst]; exact he)
      omega
    · exact h1
  have hblk : ∀ i (hi : i < ls.length) o, Live ob1 i o → ρ1 i = ρ ls[i] := fun i hi o ho => by rw [hρ1 i o hi ho]; simp [List.getD, hi]
  -- whose blocks are owned behind the call
  have hYn : ∀ b, F.Y ρ2 (putAll s.ob ls ob2 ++ ob2.drop ls.length) b → ioX F ρ s.ob ls b ∨ ownB ρ1 ob1 b := by
    rintro b (hx | ⟨l, o, ho, he⟩)
    · exact .inl (.inl hx)
    · rcases hcase ho with ⟨h1, h2, h3⟩ | ⟨i, hi, rfl, o1, h3, _⟩ | ⟨h1, o1, h3, _⟩
      · rw [h2a l h1] at he; exact .inl (.inr ⟨l, o, h3, h2, he⟩)
      · rw [h2a _ (hlt _ (List.getElem_mem hi)), ← hblk i hi o1 h3] at he
        exact .inr ⟨i, o1, h3, he⟩
      · rw [h2b l h1] at he; exact .inr ⟨_, o1, h3, he⟩
  have hY : ∀ b, b < w.heap.size → F.Y ρ2 (putAll s.ob ls ob2 ++ ob2.drop ls.length) b → F.Y ρ s.ob b := by
    rintro b hb (hx | ⟨l, o, ho, he⟩)
    · exact .inl hx
    · rcases hcase ho with ⟨h1, h2, h3⟩ | ⟨i, hi, rfl, o1, h3, _⟩ | ⟨h1, o1, h3, _⟩
      · rw [h2a l h1] at he; exact .inr ⟨l, o, h3, he⟩
      · obtain ⟨o0, g⟩ := hlive _ (List.getElem_mem hi)
        rw [h2a _ (hlt _ (List.getElem_mem hi))] at he
        exact .inr ⟨_, o0, g, he⟩
      · rw [h2b l h1] at he
        have := hfresh _ o1 (by omega) h3; omega
  have hτ : ∀ v x, RepC w (F.Y ρ s.ob) ρ s.ob v x → RepC w' (F.Y ρ2 (putAll s.ob ls ob2 ++ ob2.drop ls.length)) ρ2 (putAll s.ob ls ob2 ++ ob2.drop ls.length) v x := by
    intro v x hx
    refine hx.mono' (fun a c hnY hcell => ?_) hY (fun l o ho => ?_)
    · rw [← hcell]
      exact World.cell?_of_block (hfr _ (World.block_lt_of_cell? w a hcell) (fun l o _ ho he => hnY (.inr ⟨l, o, ho, he⟩)))
    · obtain ⟨o', g1, g2⟩ := hback ho
      exact ⟨o', g1, g2, h2a l (live_lt ho)⟩
  -- what the callee's values are in the caller's numbers
  have hnew : ∀ c x, RepC w' (Fr.Y ⟨w, ioX F ρ s.ob ls, ownB (ioρ ρ ls) (ioOb s.ob ls), (ioOb s.ob ls).length, ioρ ρ ls⟩ ρ1 ob1) ρ1 ob1 c x →
      RepC w' (F.Y ρ2 (putAll s.ob ls ob2 ++ ob2.drop ls.length)) ρ2 (putAll s.ob ls ob2 ++ ob2.drop ls.length) c (x.ren (ioN ls s.ob.length)) := by
    intro c x hx
    refine hx.ren _ (fun b _ hb => hYn b hb) (fun j _ o ho => ?_)
    by_cases hj : j < ls.length
    · rw [ioN_lt hj]
      refine ⟨renOb (ioN ls s.ob.length) o, live_app.2 (.inl ?_), rfl, ?_⟩
      · unfold Live
        rw [putAll_in hn hlen hlt j hj]; exact hl2' ho
      · rw [h2a _ (hlt _ (List.getElem_mem hj)), hblk j hj o ho]
    · rw [ioN_ge (by omega)]
      refine ⟨renOb (ioN ls s.ob.length) o, live_app.2 (.inr ⟨by rw [hpl]; omega, ?_⟩), rfl, ?_⟩
      · unfold Live
        rw [List.getElem?_drop, hpl, show ls.length + (s.ob.length + (j - ls.length) - s.ob.length) = j from by omega]; exact hl2' ho
      · rw [h2b _ (by omega), show ls.length + (s.ob.length + (j - ls.length) - s.ob.length) = j from by omega]
  have hk : HOk F w' ρ2 (putAll s.ob ls ob2 ++ ob2.drop ls.length) := by
    refine h.heap.step id hh.os hh.tape hh.output hh.size (fun b hb hioF => hfr b (Nat.lt_of_lt_of_le hb h.heap.size) (fun l o _ ho he => ?_)) hτ (fun l o ho => ?_) (fun l l' o o' ho ho' he => ?_)
    · rcases h.heap.fresh l o ho with h1 | h1
      · rw [he] at h1; exact hioF h1
      · rw [he] at h1; omega
    · have mk : ∀ j o1, Live ob1 j o1 → o = renOb (ioN ls s.ob.length) o1 → ρ2 l = ρ1 j → (F.io (ρ2 l).blk ∨ F.W.heap.size ≤ (ρ2 l).blk) → (l < F.k → ρ2 l = F.ρ0 l) →
          (ObOk w' (F.Y ρ2 (putAll s.ob ls ob2 ++ ob2.drop ls.length)) ρ2 (putAll s.ob ls ob2 ++ ob2.drop ls.length) (ρ2 l) o ∧ (F.io (ρ2 l).blk ∨ F.W.heap.size ≤ (ρ2 l).blk) ∧ (l < F.k → ρ2 l = F.ρ0 l)) := by
        intro j o1 hj ho1 he h1 h2
        subst ho1
        refine ⟨?_, h1, h2⟩
        rw [he]
        exact (hh.obj j o1 hj).ren _ fun q hq2 c g2 => hnew _ _ g2
      rcases hcase ho with ⟨h1, h2, h3⟩ | ⟨i, hi', rfl, o1, h3, e3⟩ | ⟨h1, o1, h3, e3⟩
      · refine .inl ⟨o, h3, by simp, h2a l h1, hfr _ (h.heap.blk_lt h3) (fun l' o' hm' ho' he => ?_)⟩
        have := h.heap.inj _ _ _ _ ho' h3 he
        exact h2 (this ▸ hm')
      · obtain ⟨o0, g⟩ := hlive _ (List.getElem_mem hi')
        have e := h2a _ (hlt _ (List.getElem_mem hi'))
        refine .inr (mk i o1 h3 e3 (by rw [e, hblk i hi' o1 h3]) (by rw [e]; exact h.heap.fresh _ o0 g) (fun hk => by rw [e]; exact h.heap.stay _ o0 hk g))
      · refine .inr (mk _ o1 h3 e3 (h2b l h1) ?_ (fun hk => ?_))
        · rw [h2b l h1]; exact .inr (Nat.le_trans h.heap.size (hfresh _ o1 (by omega) h3))
        · have := h.kle; omega
    · have old : ∀ {l o}, Live (putAll s.ob ls ob2 ++ ob2.drop ls.length) l o → l < s.ob.length → ∃ o0, Live s.ob l o0 ∧ ρ2 l = ρ l := by
        intro l o ho hl2
        rcases hcase ho with ⟨h1, h2, h3⟩ | ⟨i, hi', rfl, _, h3, _⟩ | ⟨h1, _, h3, _⟩
        · exact ⟨o, h3, h2a l h1⟩
        · obtain ⟨o0, g⟩ := hlive _ (List.getElem_mem hi')
          exact ⟨o0, g, h2a _ hl2⟩
        · omega
      have new : ∀ {l o}, Live (putAll s.ob ls ob2 ++ ob2.drop ls.length) l o → s.ob.length ≤ l → ∃ o1, Live ob1 (ls.length + (l - s.ob.length)) o1 := by
        intro l o ho hl2
        rcases hcase ho with ⟨h1, h2, h3⟩ | ⟨i, hi', rfl, _, h3, _⟩ | ⟨h1, o1, h3, _⟩
        · omega
        · have := hlt _ (List.getElem_mem hi'); omega
        · exact ⟨o1, h3⟩
      by_cases c1 : l < s.ob.length <;> by_cases c2 : l' < s.ob.length
      · obtain ⟨q1, g1, e1⟩ := old ho c1
        obtain ⟨q2, g2, e2⟩ := old ho' c2
        rw [e1, e2] at he
        exact h.heap.inj _ _ _ _ g1 g2 he
      · obtain ⟨q1, g1, e1⟩ := old ho c1
        obtain ⟨q2, g2⟩ := new ho' (by omega)
        rw [e1, h2b l' (by omega)] at he
        have := h.heap.blk_lt g1; have := hfresh _ q2 (by omega) g2; omega
      · obtain ⟨q2, g2, e2⟩ := old ho' c2
        obtain ⟨q1, g1⟩ := new ho (by omega)
        rw [e2, h2b l (by omega)] at he
        have := h.heap.blk_lt g2; have := hfresh _ q1 (by omega) g1; omega
      · obtain ⟨q1, g1⟩ := new ho (by omega)
        obtain ⟨q2, g2⟩ := new ho' (by omega)
        rw [h2b l (by omega), h2b l' (by omega)] at he
        have := hh.inj _ _ _ _ g1 g2 he
        omega
  exact ⟨ρ2, h.of_heap_id hk (by simp [hpl]; have := h.kle; omega) hτ, hnew _ _ hr, ⟨hh.size, fun b hb hn => hfr b hb (fun l o hm ho he => hn l o hm ho he.symm), fun l o' ho => by
    rcases hcase ho with ⟨h1, h2, h3⟩ | ⟨i, hi, rfl, o1, h3, _⟩ | ⟨h1, o1, h3, _⟩
    · exact .inl ⟨o', h3, by rw [h2a l h1]⟩
    · obtain ⟨o0, g⟩ := hlive _ (List.getElem_mem hi)
      exact .inl ⟨o0, g, by rw [h2a _ (hlt _ (List.getElem_mem hi))]⟩
    · exact .inr (by rw [h2b l h1]; exact hfresh _ o1 (by omega) h3)⟩⟩

/-! ### a call that is handed some objects for good -/

/-- THE CONTRACT of a function that is handed objects: the first k stay its caller's, the others are the function's own -/
def ACallsM (P : Program) (f : FuncId) (args : List V) (k : Nat) (ob : Objs) (Q : V → Objs → Prop) : Prop :=
  HasBody P f ∧ ∀ (w : World) (X : Nat → Prop) (ρ : Nat → Pl) (vs : Array Value), Laid P w X → vs.size = args.length →
    HOk ⟨w, X, ownB ρ ob, k, ρ⟩ w ρ ob →
    (∀ i (h : i < args.length), RepC w (Fr.Y ⟨w, X, ownB ρ ob, k, ρ⟩ ρ ob) ρ ob (vs.getD i undef) args[i]) →
    Calls P f vs w fun e w' => ∃ v r ob' ρ', e = .returned v ∧ Q r ob' ∧ HOk ⟨w, X, ownB ρ ob, k, ρ⟩ w' ρ' ob' ∧
      RepC w' (Fr.Y ⟨w, X, ownB ρ ob, k, ρ⟩ ρ' ob') ρ' ob' v r

theorem ACallsM.mono {P : Program} {f : FuncId} {args : List V} {k : Nat} {ob : Objs} {Q Q' : V → Objs → Prop} (h : ACallsM P f args k ob Q) (hq : ∀ r o, Q r o → Q' r o) : ACallsM P f args k ob Q' :=
  ⟨h.1, fun w X ρ vs h0 h1 h2 h3 => (h.2 w X ρ vs h0 h1 h2 h3).mono fun e w' ⟨v, r, o, ρ', he, hQ, hh, hr⟩ => ⟨v, r, o, ρ', he, hq r o hQ, hh, hr⟩⟩

theorem nodupB_append {la lb : List Nat} (h : nodupB (la ++ lb) = true) : nodupB la = true ∧ ∀ x ∈ la, x ∉ lb := by
  induction la with
  | nil => exact ⟨rfl, by simp⟩
  | cons a la ih =>
    simp only [List.cons_append, nodupB, Bool.and_eq_true, Bool.not_eq_true', List.elem_eq_mem, decide_eq_false_iff_not, List.mem_append, not_or] at h
    obtain ⟨⟨h1, h2⟩, h3⟩ := h
    obtain ⟨i1, i2⟩ := ih h3
    refine ⟨by simp [nodupB, h1, i1], fun x hx => ?_⟩
    rcases List.mem_cons.1 hx with rfl | hx
    · exact h2
    · exact i2 x hx

/-- objects that are gone -/
def goneAll (ob : Objs) : List Nat → Objs
  | [] => ob
  | l :: ls => goneAll (ob.set l none) ls

theorem length_goneAll (ob : Objs) (ls : List Nat) : (goneAll ob ls).length = ob.length := by
  induction ls generalizing ob with
  | nil => rfl
  | cons l ls ih => simp only [goneAll]; rw [ih]; simp

theorem goneAll_out {ob : Objs} {ls : List Nat} {l : Nat} (h : l ∉ ls) : (goneAll ob ls)[l]? = ob[l]? := by
  induction ls generalizing ob with
  | nil => rfl
  | cons x ls ih =>
    simp only [goneAll]
    rw [ih (fun h' => h (by simp [h'])), List.getElem?_set, if_neg (fun e => h (by simp [e]))]

theorem goneAll_in {ob : Objs} {ls : List Nat} {l : Nat} {o : Ob} (hl : l ∈ ls) : ¬ Live (goneAll ob ls) l o := by
  induction ls generalizing ob with
  | nil => cases hl
  | cons x ls ih =>
    simp only [goneAll]
    by_cases hm : l ∈ ls
    · exact ih hm
    · have e : l = x := by simpa [hm] using hl
      subst e
      unfold Live
      rw [goneAll_out hm, List.getElem?_set, if_pos rfl]
      split <;> simp

/-- the caller's objects behind such a call -/
def obM (ob : Objs) (la lb : List Nat) (ob2 : Objs) : Objs := putAll (goneAll (trO (V.kill fun l => elemN l lb) ob) lb) la ob2 ++ ob2.drop la.length

theorem Sat.calleeM (h : Sat F s ρ a w) {ls : List Nat} (hn : nodupB ls = true) (hl : liveClo s.ob ls ls = true) (k : Nat) :
    HOk ⟨w, ioX F ρ s.ob ls, ownB (ioρ ρ ls) (ioOb s.ob ls), k, ioρ ρ ls⟩ w (ioρ ρ ls) (ioOb s.ob ls) :=
  have h1 := h.calleeIO hn hl
  ⟨h1.os, h1.tape, h1.output, h1.size, h1.frame, h1.xlt, h1.obj, h1.fresh, h1.inj, fun _ _ _ _ => rfl⟩

theorem Sat.calledM (h : Sat F s ρ a w) {la lb : List Nat} (hn : nodupB (la ++ lb) = true) (hl : liveClo s.ob (la ++ lb) (la ++ lb) = true) {w' : World} {ρ1 : Nat → Pl} {ob1 : Objs} {v : Value} {r : V}
    (hh : HOk ⟨w, ioX F ρ s.ob (la ++ lb), ownB (ioρ ρ (la ++ lb)) (ioOb s.ob (la ++ lb)), la.length, ioρ ρ (la ++ lb)⟩ w' ρ1 ob1)
    (hr : RepC w' (Fr.Y ⟨w, ioX F ρ s.ob (la ++ lb), ownB (ioρ ρ (la ++ lb)) (ioOb s.ob (la ++ lb)), la.length, ioρ ρ (la ++ lb)⟩ ρ1 ob1) ρ1 ob1 v r) (hok : ioOk s.ob la ob1) :
    ∃ ρ2, Sat F { s with sl := trS (V.kill fun l => elemN l lb) s.sl, ob := obM s.ob la lb (renO (ioN la s.ob.length) ob1) } ρ2 a w' ∧
      RepC w' (F.Y ρ2 (obM s.ob la lb (renO (ioN la s.ob.length) ob1))) ρ2 (obM s.ob la lb (renO (ioN la s.ob.length) ob1)) v (r.ren (ioN la s.ob.length)) := by
  let ρ2 : Nat → Pl := fun l => if l < s.ob.length then ρ l else ρ1 (la.length + (l - s.ob.length))
  have h2a : ∀ l, l < s.ob.length → ρ2 l = ρ l := fun l hl => if_pos hl
  have h2b : ∀ l, s.ob.length ≤ l → ρ2 l = ρ1 (la.length + (l - s.ob.length)) := fun l hl => if_neg (by omega)
  generalize hob2 : renO (ioN la s.ob.length) ob1 = ob2
  obtain ⟨hna, hab⟩ := nodupB_append hn
  have hl2 : ∀ {l o'}, Live ob2 l o' → ∃ o, Live ob1 l o ∧ o' = renOb (ioN la s.ob.length) o := fun h => by rw [← hob2] at h; exact live_renO.1 h
  have hl2' : ∀ {l o}, Live ob1 l o → Live ob2 l (renOb (ioN la s.ob.length) o) := fun h => by rw [← hob2]; exact live_renO.2 ⟨_, h, rfl⟩
  have hlive : ∀ l ∈ la ++ lb, ∃ o, Live s.ob l o := fun l hm => by obtain ⟨o, g, _⟩ := liveClo_mem hl hm; exact ⟨o, g⟩
  have hlivea : ∀ l ∈ la, ∃ o, Live s.ob l o := fun l hm => hlive l (List.mem_append.2 (.inl hm))
  have hlt : ∀ l ∈ la, l < s.ob.length := fun l hm => by obtain ⟨o, g⟩ := hlivea l hm; exact live_lt g
  have hlen : la.length ≤ ob2.length := by rw [← hob2, length_renO]; exact ioOk_len hok
  generalize hgb : goneAll (trO (V.kill fun l => elemN l lb) s.ob) lb = gb
  have hgl : gb.length = s.ob.length := by rw [← hgb, length_goneAll]; simp [trO]
  have hltg : ∀ l ∈ la, l < gb.length := fun l hm => by rw [hgl]; exact hlt l hm
  have hpl : (putAll gb la ob2).length = s.ob.length := (length_putAll _ _ _).trans hgl
  have hblk : ∀ i (hi : i < la.length) o, Live ob1 i o → ρ1 i = ρ la[i] := fun i hi o ho => by
    rw [hh.stay i o hi ho]
    show ρ ((la ++ lb).getD i 0) = _
    rw [List.getD, List.getElem?_append_left hi, List.getElem?_eq_getElem hi]; rfl
  have hgb1 : ∀ {l o}, Live gb l o → l ∉ lb ∧ ∃ o0, Live s.ob l o0 ∧ o = ⟨o0.esz, o0.cells.map (V.kill fun l => elemN l lb)⟩ := by
    intro l o ho
    rw [← hgb] at ho
    have hm : l ∉ lb := fun hm => goneAll_in hm ho
    refine ⟨hm, ?_⟩
    unfold Live at ho
    rw [goneAll_out hm] at ho
    exact live_trO.1 ho
  have hgb2 : ∀ {l o}, l ∉ lb → Live s.ob l o → Live gb l ⟨o.esz, o.cells.map (V.kill fun l => elemN l lb)⟩ := by
    intro l o hm ho
    rw [← hgb]
    unfold Live
    rw [goneAll_out hm]
    exact live_trO.2 ⟨o, ho, rfl⟩
  have hobM : obM s.ob la lb ob2 = putAll gb la ob2 ++ ob2.drop la.length := by rw [← hgb]; rfl
  rw [hobM]
  -- the objects behind the call
  have hcase : ∀ {l o}, Live (putAll gb la ob2 ++ ob2.drop la.length) l o →
      (l < s.ob.length ∧ l ∉ la ∧ l ∉ lb ∧ ∃ o0, Live s.ob l o0 ∧ o = ⟨o0.esz, o0.cells.map (V.kill fun l => elemN l lb)⟩) ∨ (∃ i, ∃ hi : i < la.length, l = la[i] ∧ ∃ o1, Live ob1 i o1 ∧ o = renOb (ioN la s.ob.length) o1) ∨ (s.ob.length ≤ l ∧ ∃ o1, Live ob1 (la.length + (l - s.ob.length)) o1 ∧ o = renOb (ioN la s.ob.length) o1) := by
    intro l o ho
    rcases live_app.1 ho with ho | ⟨hle, ho⟩
    · have hlt2 := live_lt ho
      rw [hpl] at hlt2
      by_cases hm : l ∈ la
      · obtain ⟨i, hi, rfl⟩ := List.mem_iff_getElem.1 hm
        unfold Live at ho
        rw [putAll_in hna hlen hltg i hi] at ho
        exact .inr (.inl ⟨i, hi, rfl, hl2 ho⟩)
      · unfold Live at ho
        rw [putAll_out hm] at ho
        obtain ⟨g1, g2⟩ := hgb1 ho
        exact .inl ⟨hlt2, hm, g1, g2⟩
    · rw [hpl] at hle ho
      refine .inr (.inr ⟨hle, hl2 ?_⟩)
      unfold Live at ho ⊢
      rwa [List.getElem?_drop] at ho
  have hback : ∀ {l o}, elemN l lb = false → Live s.ob l o → ∃ o', Live (putAll gb la ob2 ++ ob2.drop la.length) l o' ∧ o'.esz = o.esz := by
    intro l o hnb ho
    have hlt2 := live_lt ho
    have hmb : l ∉ lb := fun h' => by rw [elemN_iff.2 h'] at hnb; cases hnb
    by_cases hm : l ∈ la
    · obtain ⟨i, hi, rfl⟩ := List.mem_iff_getElem.1 hm
      obtain ⟨o1, o', g1, g2, g3⟩ := ioOk_get hok i hi
      have : o1 = o := by unfold Live at g1 ho; rw [ho] at g1; cases g1; rfl
      subst this
      refine ⟨renOb (ioN la s.ob.length) o', live_app.2 (.inl ?_), g3⟩
      unfold Live
      rw [putAll_in hna hlen hltg i hi]; exact (hl2' g2 : Live ob2 i _)
    · refine ⟨⟨o.esz, o.cells.map (V.kill fun l => elemN l lb)⟩, live_app.2 (.inl ?_), rfl⟩
      unfold Live
      rw [putAll_out hm]; exact hgb2 hmb ho
  have hio : ∀ b, ownB (ioρ ρ (la ++ lb)) (ioOb s.ob (la ++ lb)) b → ∃ l o, l ∈ la ++ lb ∧ Live s.ob l o ∧ (ρ l).blk = b := fun b hb => ioOb_own hb
  have hfr : ∀ b, b < w.heap.size → (∀ l o, l ∈ la ++ lb → Live s.ob l o → (ρ l).blk ≠ b) → w'.heap[b]? = w.heap[b]? := fun b hb hno =>
    hh.frame b hb (fun hb2 => by obtain ⟨l, o, h1, h2, h3⟩ := hio b hb2; exact hno l o h1 h2 h3)
  have hfresh : ∀ j o, la.length ≤ j → Live ob1 j o → (∃ l o, l ∈ lb ∧ Live s.ob l o ∧ (ρ l).blk = (ρ1 j).blk) ∨ w.heap.size ≤ (ρ1 j).blk := fun j o hj ho => by
    rcases hh.fresh j o ho with h1 | h1
    · obtain ⟨l, o2, hm, g1, g2⟩ := hio _ h1
      rcases List.mem_append.1 hm with hm | hm
      · exfalso
        obtain ⟨i, hi, rfl⟩ := List.mem_iff_getElem.1 hm
        obtain ⟨_, o', _, q2, _⟩ := ioOk_get hok i hi
        have := hh.inj i j o' o q2 ho (by rw [hblk i hi o' q2]; exact g2)
        omega
      · exact .inl ⟨l, o2, hm, g1, g2⟩
    · exact .inr h1
  -- whose blocks are owned behind the call
  have hYn : ∀ b, F.Y ρ2 (putAll gb la ob2 ++ ob2.drop la.length) b → ioX F ρ s.ob (la ++ lb) b ∨ ownB ρ1 ob1 b := by
    rintro b (hx | ⟨l, o, ho, he⟩)
    · exact .inl (.inl hx)
    · rcases hcase ho with ⟨h1, h2, h2', o0, h3, _⟩ | ⟨i, hi, rfl, o1, h3, _⟩ | ⟨h1, o1, h3, _⟩
      · rw [h2a l h1] at he; exact .inl (.inr ⟨l, o0, h3, fun hm => (List.mem_append.1 hm).elim h2 h2', he⟩)
      · rw [h2a _ (hlt _ (List.getElem_mem hi)), ← hblk i hi o1 h3] at he
        exact .inr ⟨i, o1, h3, he⟩
      · rw [h2b l h1] at he; exact .inr ⟨_, o1, h3, he⟩
  have hY : ∀ b, b < w.heap.size → F.Y ρ2 (putAll gb la ob2 ++ ob2.drop la.length) b → F.Y ρ s.ob b := by
    rintro b hb (hx | ⟨l, o, ho, he⟩)
    · exact .inl hx
    · rcases hcase ho with ⟨h1, h2, h2', o0, h3, _⟩ | ⟨i, hi, rfl, o1, h3, _⟩ | ⟨h1, o1, h3, _⟩
      · rw [h2a l h1] at he; exact .inr ⟨l, o0, h3, he⟩
      · obtain ⟨o0, g⟩ := hlivea _ (List.getElem_mem hi)
        rw [h2a _ (hlt _ (List.getElem_mem hi))] at he
        exact .inr ⟨_, o0, g, he⟩
      · rw [h2b l h1] at he
        rcases hfresh _ o1 (by omega) h3 with ⟨l', o', _, g1, g2⟩ | g
        · exact .inr ⟨l', o', g1, g2.trans he⟩
        · omega
  have hτ : ∀ v x, RepC w (F.Y ρ s.ob) ρ s.ob v x → RepC w' (F.Y ρ2 (putAll gb la ob2 ++ ob2.drop la.length)) ρ2 (putAll gb la ob2 ++ ob2.drop la.length) v (x.kill fun l => elemN l lb) := by
    intro v x hx
    refine hx.mono (fun a c hnY hcell => ?_) hY _ (fun l o hp ho => ?_)
    · rw [← hcell]
      exact World.cell?_of_block (hfr _ (World.block_lt_of_cell? w a hcell) (fun l o _ ho he => hnY (.inr ⟨l, o, ho, he⟩)))
    · obtain ⟨o', g1, g2⟩ := hback hp ho
      exact ⟨o', g1, g2, h2a l (live_lt ho)⟩
  -- what the callee's values are in the caller's numbers
  have hnew : ∀ c x, RepC w' (Fr.Y ⟨w, ioX F ρ s.ob (la ++ lb), ownB (ioρ ρ (la ++ lb)) (ioOb s.ob (la ++ lb)), la.length, ioρ ρ (la ++ lb)⟩ ρ1 ob1) ρ1 ob1 c x →
      RepC w' (F.Y ρ2 (putAll gb la ob2 ++ ob2.drop la.length)) ρ2 (putAll gb la ob2 ++ ob2.drop la.length) c (x.ren (ioN la s.ob.length)) := by
    intro c x hx
    refine hx.ren _ (fun b _ hb => hYn b hb) (fun j _ o ho => ?_)
    by_cases hj : j < la.length
    · rw [ioN_lt hj]
      refine ⟨renOb (ioN la s.ob.length) o, live_app.2 (.inl ?_), rfl, ?_⟩
      · unfold Live
        rw [putAll_in hna hlen hltg j hj]; exact hl2' ho
      · rw [h2a _ (hlt _ (List.getElem_mem hj)), hblk j hj o ho]
    · rw [ioN_ge (by omega)]
      refine ⟨renOb (ioN la s.ob.length) o, live_app.2 (.inr ⟨by rw [hpl]; omega, ?_⟩), rfl, ?_⟩
      · unfold Live
        rw [List.getElem?_drop, hpl, show la.length + (s.ob.length + (j - la.length) - s.ob.length) = j from by omega]; exact hl2' ho
      · rw [h2b _ (by omega), show la.length + (s.ob.length + (j - la.length) - s.ob.length) = j from by omega]
  have hk : HOk F w' ρ2 (putAll gb la ob2 ++ ob2.drop la.length) := by
    refine h.heap.step (V.kill fun l => elemN l lb) hh.os hh.tape hh.output hh.size (fun b hb hioF => hfr b (Nat.lt_of_lt_of_le hb h.heap.size) (fun l o _ ho he => ?_)) hτ (fun l o ho => ?_) (fun l l' o o' ho ho' he => ?_)
    · rcases h.heap.fresh l o ho with h1 | h1
      · rw [he] at h1; exact hioF h1
      · rw [he] at h1; omega
    · have mk : ∀ j o1, Live ob1 j o1 → o = renOb (ioN la s.ob.length) o1 → ρ2 l = ρ1 j → (F.io (ρ2 l).blk ∨ F.W.heap.size ≤ (ρ2 l).blk) → (l < F.k → ρ2 l = F.ρ0 l) →
          (ObOk w' (F.Y ρ2 (putAll gb la ob2 ++ ob2.drop la.length)) ρ2 (putAll gb la ob2 ++ ob2.drop la.length) (ρ2 l) o ∧ (F.io (ρ2 l).blk ∨ F.W.heap.size ≤ (ρ2 l).blk) ∧ (l < F.k → ρ2 l = F.ρ0 l)) := by
        intro j o1 hj ho1 he h1 h2
        subst ho1
        refine ⟨?_, h1, h2⟩
        rw [he]
        exact (hh.obj j o1 hj).ren _ fun q hq2 c g2 => hnew _ _ g2
      rcases hcase ho with ⟨h1, h2, h2', o0, h3, h4⟩ | ⟨i, hi', rfl, o1, h3, e3⟩ | ⟨h1, o1, h3, e3⟩
      · refine .inl ⟨o0, h3, h4, h2a l h1, hfr _ (h.heap.blk_lt h3) (fun l' o' hm' ho' he => ?_)⟩
        have := h.heap.inj _ _ _ _ ho' h3 he
        exact (List.mem_append.1 hm').elim (this ▸ h2) (this ▸ h2')
      · obtain ⟨o0, g⟩ := hlivea _ (List.getElem_mem hi')
        have e := h2a _ (hlt _ (List.getElem_mem hi'))
        refine .inr (mk i o1 h3 e3 (by rw [e, hblk i hi' o1 h3]) (by rw [e]; exact h.heap.fresh _ o0 g) (fun hk => by rw [e]; exact h.heap.stay _ o0 hk g))
      · refine .inr (mk _ o1 h3 e3 (h2b l h1) ?_ (fun hk => ?_))
        · rw [h2b l h1]
          rcases hfresh _ o1 (by omega) h3 with ⟨l', o', _, g1, g2⟩ | g
          · rw [← g2]; exact h.heap.fresh _ _ g1
          · exact .inr (Nat.le_trans h.heap.size g)
        · have := h.kle; omega
    · have old : ∀ {l o}, Live (putAll gb la ob2 ++ ob2.drop la.length) l o → l < s.ob.length → ∃ o0, Live s.ob l o0 ∧ ρ2 l = ρ l ∧ l ∉ lb := by
        intro l o ho hl2
        rcases hcase ho with ⟨h1, h2, h2', o0, h3, _⟩ | ⟨i, hi', rfl, _, h3, _⟩ | ⟨h1, _, h3, _⟩
        · exact ⟨o0, h3, h2a l h1, h2'⟩
        · obtain ⟨o0, g⟩ := hlivea _ (List.getElem_mem hi')
          exact ⟨o0, g, h2a _ hl2, hab _ (List.getElem_mem hi')⟩
        · omega
      have new : ∀ {l o}, Live (putAll gb la ob2 ++ ob2.drop la.length) l o → s.ob.length ≤ l → ∃ o1, Live ob1 (la.length + (l - s.ob.length)) o1 := by
        intro l o ho hl2
        rcases hcase ho with ⟨h1, _⟩ | ⟨i, hi', rfl, _, h3, _⟩ | ⟨h1, o1, h3, _⟩
        · omega
        · have := hlt _ (List.getElem_mem hi'); omega
        · exact ⟨o1, h3⟩
      have oldnew : ∀ {l l' o o'}, Live (putAll gb la ob2 ++ ob2.drop la.length) l o → Live (putAll gb la ob2 ++ ob2.drop la.length) l' o' → l < s.ob.length → s.ob.length ≤ l' → (ρ2 l).blk ≠ (ρ2 l').blk := by
        intro l l' o o' ho ho' c1 c2 he
        obtain ⟨q1, g1, e1, g1'⟩ := old ho c1
        obtain ⟨q2, g2⟩ := new ho' c2
        rw [e1, h2b l' c2] at he
        rcases hfresh _ q2 (by omega) g2 with ⟨l2, o2, g3, g4, g5⟩ | g
        · have := h.heap.inj _ _ _ _ g1 g4 (he.trans g5.symm)
          exact g1' (this ▸ g3)
        · have := h.heap.blk_lt g1; omega
      by_cases c1 : l < s.ob.length <;> by_cases c2 : l' < s.ob.length
      · obtain ⟨q1, g1, e1, _⟩ := old ho c1
        obtain ⟨q2, g2, e2, _⟩ := old ho' c2
        rw [e1, e2] at he
        exact h.heap.inj _ _ _ _ g1 g2 he
      · exact absurd he (oldnew ho ho' c1 (by omega))
      · exact absurd he.symm (oldnew ho' ho c2 (by omega))
      · obtain ⟨q1, g1⟩ := new ho (by omega)
        obtain ⟨q2, g2⟩ := new ho' (by omega)
        rw [h2b l (by omega), h2b l' (by omega)] at he
        have := hh.inj _ _ _ _ g1 g2 he
        omega
  exact ⟨ρ2, h.of_heap _ rfl hk (by simp [hpl]; have := h.kle; omega) hτ, hnew _ _ hr⟩

end
end Go.AG

/-
  AG, part Jc: a region whose order is open, a quiet head (reads and quiet calls), then a tail that comes in its own order: one walk of the text's order serves. Put together from the kit's two theorems on quiet regions and on tails. Conditions: none.
-/
set_option linter.unusedSimpArgs false
set_option linter.unusedVariables false
namespace Go.AG

section
variable {P : Program} {ops : Array Oper} {md : Region.Mode} {C : World → Prop}

def wpAnyT (P : Program) (md : Region.Mode) (ops : Array Oper) (C : World → Prop) (n : Nat) (L : Array Bool → Act → Prop) : Nat → Array Bool → Act → Prop
  | 0, listed, a => L listed a
  | f + 1, listed, a => Region.ready md ops listed ≠ [] ∧ ∀ i ∈ Region.ready md ops listed, i < n ∧ qOp P ops C i (wpAnyT P md ops C n L f (listed.setIfInBounds i true)) a

theorem wpAny_of_headT {n g : Nat} {L : Array Bool → Act → Prop} {Q' : Exit → Act → World → Prop} (hL : ∀ listed a w, C w → L listed a → wpAny P md ops Q' g listed a w) :
    ∀ (f : Nat) (listed : Array Bool) (a : Act) (w : World), C w → wpAnyT P md ops C n L f listed a → wpAny P md ops Q' (f + g) listed a w
  | 0, listed, a, w, hw, h => by rw [Nat.zero_add]; exact hL _ _ _ hw h
  | f + 1, listed, a, w, hw, h => by
    rw [show f + 1 + g = (f + g) + 1 by omega]
    exact ⟨fun h0 => absurd h0 h.1, fun i hi => wpOp_of_qOp hw (fun a' w' hw' h' => wpAny_of_headT hL f _ a' w' hw' h') (h.2 i hi).2⟩

theorem wpAnyT_first {n i : Nat} {oi : Oper} {v : Value} {L : Array Bool → Act → Prop} (hi : ops[i]? = some oi) (hsel : ∀ (j : Nat) (o : Oper) cs b, ops[j]? = some o → o.op ≠ .select cs b)
    (hs : Region.sinkB md ops n = true) (hc : Region.chainB md ops n = true) (hn : n < ops.size) (hin : i < n)
    (hdone : ∀ listed a, L listed a → ∀ j ∈ Region.ready md ops listed, n ≤ j) :
    ∀ (f : Nat) (listed : Array Bool) (a : Act), HeadInv md ops n listed →
      (∀ j oj, ops[j]? = some oj → j ≠ i → listed.getD j true = false → (∀ e ∈ oj.after, Region.binds md e = true → e.on ≠ i) → oi.apart ops oj = true) →
      i ∈ Region.ready md ops listed → YieldsIn P ops C oi v a →
      wpAnyT P md ops C n L f (listed.setIfInBounds i true) (a.put oi.dst v) → wpAnyT P md ops C n L (f + 1) listed a := by
  intro f
  induction f with
  | zero =>
    intro listed a inv _ hr hy H
    have hun := (mem_ready.1 hr).1
    refine ⟨fun h => (by rw [h] at hr; cases hr), fun j hj => ?_⟩
    have hjn : j < n := by
      rcases Nat.lt_or_ge j n with h | h
      · exact h
      · exact absurd hj (tail_waits hs hc hn inv _ i rfl hin hun j h)
    refine ⟨hjn, ?_⟩
    by_cases hji : j = i
    · subst hji; exact hy.qOp hi H
    · have := hdone _ _ H j (ready_mono hj hji)
      omega
  | succ f ih =>
    intro listed a inv hfree hr hy H
    have hun := (mem_ready.1 hr).1
    refine ⟨fun h => (by rw [h] at hr; cases hr), fun j hj => ?_⟩
    have hjn : j < n := by
      rcases Nat.lt_or_ge j n with h | h
      · exact h
      · exact absurd hj (tail_waits hs hc hn inv _ i rfl hin hun j h)
    refine ⟨hjn, ?_⟩
    by_cases hji : j = i
    · subst hji; exact hy.qOp hi H
    · have h1 := (H.2 j (ready_mono hj hji)).2
      obtain ⟨hjun, oj, hoj, hall⟩ := mem_ready.1 hj
      have hnot : ∀ e ∈ oj.after, Region.binds md e = true → e.on ≠ i := fun e he hb heq => by
        have h1 := hall e he hb
        rw [heq, getD_both hun] at h1
        cases h1
      have h2 := qOp_put hoj (hfree j oj hoj hji hjun hnot) (fun cs b => hsel i oi cs b hi) (fun cs b => hsel j oj cs b hoj) hy h1
      have hfree' : ∀ k ok, ops[k]? = some ok → k ≠ i → (listed.setIfInBounds j true).getD k true = false →
          (∀ e ∈ ok.after, Region.binds md e = true → e.on ≠ i) → oi.apart ops ok = true := fun k ok hk hki hkun hno => by
        refine hfree k ok hk hki ?_ hno
        by_cases hjk : j = k
        · subst hjk; exact hjun
        · rw [getD_set_ne true hjk] at hkun; exact hkun
      refine qOp_mono (fun a' h3 => ih (listed.setIfInBounds j true) a' (inv.set hj hjn) hfree' (ready_mono hr (Ne.symm hji)) h3.1 ?_) h2
      rw [Array.setIfInBounds_comm _ _ hji]
      exact h3.2

theorem wpAnyT_lex {n g : Nat} {Lq : Act → Prop} (hsel : Region.noSelect ops = true) (hs : Region.sinkB md ops n = true) (hc : Region.chainB md ops n = true) (hn : n < ops.size) :
    ∀ (l : List Oper) (k : Nat) (listed : Array Bool) (a : Act), (∀ j, j < l.length → l[j]? = ops[k + j]?) → k + l.length = n → HeadInv md ops n listed →
    Region.lexHead md ops g l.length k listed = true → wpQuiet P ops C Lq l a →
    wpAnyT P md ops C n (fun listed' a' => Region.seqB md ops g n listed' = true ∧ Lq a') l.length listed a
  | [], k, listed, a, _, hk, _, hB, h => by
    have : k = n := by simpa using hk
    subst this
    exact ⟨by simpa [Region.lexHead] using hB, h⟩
  | o :: l, k, listed, a, hl, hk, inv, hB, h => by
    have h0 : ops[k]? = some o := by simpa using (hl 0 (by simp)).symm
    simp only [List.length_cons, Region.lexHead, Bool.and_eq_true] at hB
    obtain ⟨⟨hr, hf⟩, hB'⟩ := hB
    have hkn : k < n := by simp only [List.length_cons] at hk; omega
    have hr' : k ∈ Region.ready md ops listed := by simpa using hr
    have hst : qOp P ops C k (wpQuiet P ops C Lq l) a := by unfold qOp; simp only [h0]; exact h
    obtain ⟨v, hy, hK⟩ := yieldsIn_of_qOp h0 hst
    exact wpAnyT_first h0 (Region.noSelect_spec hsel) hs hc hn hkn (fun listed' a' hL => seqB_ready hL.1) l.length listed a inv (Region.free_spec h0 hf) hr' hy
      (wpAnyT_lex hsel hs hc hn l (k + 1) _ _ (fun j hj => by have := hl (j + 1) (by simp; omega); simpa [Nat.add_assoc, Nat.add_comm 1 j] using this) (by simp only [List.length_cons] at hk; omega) (inv.set hr' hkn) hB' hK)

theorem wp_region_quiet_tail {id : Nat} {Q : Exit → Act → World → Prop} {a : Act} {w : World} (n : Nat) (hm : P.follows .mixedOrders = true) (hB : Region.lexTailB .any ops n = true) (hC : C { w with drawn := w.drawn + 1 })
    (h : wpQuiet P ops C (fun a' => ∀ w', C w' → wpList P ops Q (ops.toList.drop n) a' w') (ops.toList.take n) a) : (Code.region id ops true).wp P Q a w := by
  simp only [Region.lexTailB, Bool.and_eq_true, decide_eq_true_eq] at hB
  obtain ⟨⟨⟨⟨hsel, hn⟩, hs⟩, hc⟩, hlex⟩ := hB
  have hn' : n < ops.toList.length := by simpa using hn
  have htl : (ops.toList.take n).length = n := by simp; omega
  have hdl : (ops.toList.drop n).length = ops.size - n := by simp
  have inv0 : HeadInv .any ops n (Array.replicate ops.size false) :=
    ⟨by simp, fun j oj _ hl => (by rw [getD_replicate_false] at hl; cases hl), fun t _ ht => getD_in (by simpa using ht) (getD_replicate_false _ _)⟩
  have H := wpAnyT_lex (C := C) (md := .any) (g := ops.size - n) hsel hs hc hn (ops.toList.take n) 0 _ a (fun j hj => by
    have hj' : j < n := by rw [htl] at hj; exact hj
    simp [hj']) (by simpa using htl) inv0 (by rw [htl]; exact hlex) h
  refine wp_region_any hm ?_
  have := wpAny_of_headT (Q' := Q) (g := ops.size - n) (fun listed a' w' hw' hL => by
    have := wpAny_of_seq (md := .any) (Q' := Q) (ops.toList.drop n) n listed a' w' (fun j => by simp [List.getElem?_drop]) (by rw [hdl]; exact hL.1) (hL.2 w' hw')
    rwa [hdl] at this) _ _ _ _ hC H
  rw [htl, show n + (ops.size - n) = ops.size by omega] at this
  exact this
end
end Go.AG

/-
  AG, part Jd: what is kept of a state, in new numbers: the objects of a result; the objects of some slots. Conditions: none.
-/
set_option linter.unusedSimpArgs false
set_option linter.unusedVariables false
namespace Go.AG
open Go.RowKit

/-- what an object refers to -/
def refsAt (ob : Objs) (l : Nat) : List Nat := match obAt ob l with
  | some o => refsQ o.cells
  | none => []
def refsIo (ob : Objs) : Nat → List Nat
  | 0 => []
  | k + 1 => refsIo ob k ++ refsAt ob k
def refsOf (ob : Objs) : List Nat → List Nat
  | [] => []
  | l :: r => refsAt ob l ++ refsOf ob r
/-- numbers from k on, each once -/
def addN (k : Nat) (acc : List Nat) : List Nat → List Nat
  | [] => acc
  | x :: r => addN k (bif Nat.ble k x && !(elemN x acc) then acc ++ [x] else acc) r
/-- the numbers are below k or among some -/
def subK (k : Nat) (ls : List Nat) : List Nat → Bool
  | [] => true
  | x :: r => (Nat.blt x k || elemN x ls) && subK k ls r
def liveB (ob : Objs) : List Nat → Bool
  | [] => true
  | l :: r => (match obAt ob l with | some _ => true | none => false) && liveB ob r

def rnm (k : Nat) (ls : List Nat) (l : Nat) : Nat := bif Nat.blt l k then l else k + ls.idxOf l

/-- a result and the objects that go with it (what it refers to, and what these refer to, to a depth of three) -/
def vRet3 (k : Nat) (ob : Objs) (r : V) (Q : V → Objs → Prop) (ls : List Nat) : Prop :=
  subK k ls (refsIo ob k) = true ∧ subK k ls (refsOf ob ls) = true ∧ liveB ob ls = true ∧ Q (r.ren (rnm k ls)) (renO (rnm k ls) (ob.take k ++ ls.map (obAt ob)))
def vRet2 (k : Nat) (ob : Objs) (r : V) (Q : V → Objs → Prop) (ls : List Nat) : Prop := vRet3 k ob r Q (addN k ls (refsOf ob ls))
def vRet1 (k : Nat) (ob : Objs) (r : V) (Q : V → Objs → Prop) (ls : List Nat) : Prop := vRet2 k ob r Q (addN k ls (refsOf ob ls))
def vRet (k : Nat) (ob : Objs) (r : V) (Q : V → Objs → Prop) : Prop := vRet1 k ob r Q (addN k [] (r.refs ++ refsIo ob k))

theorem addN_keep {k : Nat} {x : Nat} : ∀ {xs acc : List Nat}, x ∈ acc → x ∈ addN k acc xs
  | [], _, h => h
  | y :: r, acc, h => by
    unfold addN
    apply addN_keep
    cases (Nat.ble k y && !(elemN y acc)) <;> simp [h]
theorem addN_mem {k : Nat} {x : Nat} : ∀ {xs acc : List Nat}, x ∈ xs → k ≤ x → x ∈ addN k acc xs
  | [], _, h, _ => by simp at h
  | y :: r, acc, h, hk => by
    unfold addN
    rcases List.mem_cons.1 h with rfl | h
    · apply addN_keep
      rw [Nat.ble_eq_true_of_le hk]
      cases he : elemN x acc with
      | true => simpa using elemN_iff.1 he
      | false => simp
    · exact addN_mem h hk
theorem addN_ok {k : Nat} : ∀ {xs acc : List Nat}, acc.Nodup → (∀ x ∈ acc, k ≤ x) → (addN k acc xs).Nodup ∧ ∀ x ∈ addN k acc xs, k ≤ x
  | [], _, h1, h2 => ⟨h1, h2⟩
  | y :: r, acc, h1, h2 => by
    unfold addN
    cases hb : Nat.ble k y && !(elemN y acc) with
    | false => exact addN_ok h1 h2
    | true =>
      simp only [Bool.and_eq_true, Bool.not_eq_true'] at hb
      have hny : y ∉ acc := fun h => by rw [elemN_iff.2 h] at hb; simp at hb
      refine addN_ok ?_ ?_
      · simp only [cond_true]
        rw [List.nodup_append]
        exact ⟨h1, by simp, fun a ha b hb' => by simp at hb'; subst hb'; exact fun e => hny (e ▸ ha)⟩
      · intro x hx
        simp only [cond_true, List.mem_append, List.mem_singleton] at hx
        rcases hx with hx | rfl
        · exact h2 x hx
        · exact Nat.le_of_ble_eq_true hb.1
theorem subK_get {k : Nat} {ls : List Nat} {x : Nat} : ∀ {xs : List Nat}, subK k ls xs = true → x ∈ xs → x < k ∨ x ∈ ls
  | [], _, h => by simp at h
  | y :: r, h, hx => by
    simp only [subK, Bool.and_eq_true, Bool.or_eq_true] at h
    rcases List.mem_cons.1 hx with rfl | hx
    · rcases h.1 with h1 | h1
      · left; simp [Nat.blt, Nat.ble_eq] at h1; omega
      · right; exact elemN_iff.1 h1
    · exact subK_get h.2 hx
theorem liveB_mem {ob : Objs} {l : Nat} : ∀ {ls : List Nat}, liveB ob ls = true → l ∈ ls → ∃ o, Live ob l o ∧ obAt ob l = some o
  | [], _, h => by simp at h
  | y :: r, h, hl => by
    simp only [liveB, Bool.and_eq_true] at h
    rcases List.mem_cons.1 hl with rfl | hl
    · cases ho : obAt ob l with
      | none => rw [ho] at h; simp at h
      | some o => exact ⟨o, obAt_live.1 ho, rfl⟩
    · exact liveB_mem h.2 hl
theorem refsAt_live {ob : Objs} {l : Nat} {o : Ob} (h : Live ob l o) : refsAt ob l = V.refsL o.cells := by
  unfold refsAt
  rw [obAt_live.2 h, ← refsQ_eq]
theorem refsIo_mem {ob : Objs} {l x : Nat} : ∀ {k : Nat}, l < k → x ∈ refsAt ob l → x ∈ refsIo ob k
  | 0, h, _ => by omega
  | k + 1, h, hx => by
    simp only [refsIo, List.mem_append]
    by_cases e : l = k
    · subst e; exact .inr hx
    · exact .inl (refsIo_mem (by omega) hx)
theorem refsOf_mem {ob : Objs} {l x : Nat} : ∀ {ls : List Nat}, l ∈ ls → x ∈ refsAt ob l → x ∈ refsOf ob ls
  | [], h, _ => by simp at h
  | y :: r, h, hx => by
    simp only [refsOf, List.mem_append]
    rcases List.mem_cons.1 h with rfl | h
    · exact .inl hx
    · exact .inr (refsOf_mem h hx)

section
variable {P : Program} {F : Fr} {s : AState} {ρ : Nat → Pl} {a : Act} {w : World}

/-- what a function hands back, in its caller's numbers -/
theorem Sat.ret (h : Sat F s ρ a w) {r : V} {v : Value} (hr : RepC w (F.Y ρ s.ob) ρ s.ob v r) {Q : V → Objs → Prop} (hv : vRet s.k s.ob r Q) :
    ∃ r' ob' ρ', Q r' ob' ∧ HOk F w ρ' ob' ∧ RepC w (F.Y ρ' ob') ρ' ob' v r' := by
  have hv' : ∃ ls : List Nat, ls.Nodup ∧ (∀ l ∈ ls, s.k ≤ l) ∧ (∀ x ∈ r.refs, x < s.k ∨ x ∈ ls) ∧ vRet3 s.k s.ob r Q ls := by
    unfold vRet vRet1 vRet2 at hv
    have h0 := addN_ok (k := s.k) (xs := r.refs ++ refsIo s.ob s.k) (acc := []) (by simp) (by simp)
    have h1 := addN_ok (k := s.k) (xs := refsOf s.ob (addN s.k [] (r.refs ++ refsIo s.ob s.k))) h0.1 h0.2
    have h2 := addN_ok (k := s.k) (xs := refsOf s.ob (addN s.k (addN s.k [] (r.refs ++ refsIo s.ob s.k)) (refsOf s.ob (addN s.k [] (r.refs ++ refsIo s.ob s.k))))) h1.1 h1.2
    refine ⟨_, h2.1, h2.2, fun x hx => ?_, hv⟩
    by_cases hk : x < s.k
    · exact .inl hk
    · exact .inr (addN_keep (addN_keep (addN_mem (List.mem_append.2 (.inl hx)) (by omega))))
  obtain ⟨ls, hnd, hlsk, hrr, hio2, hof, hli, hQ⟩ := hv'
  have hk : s.k ≤ s.ob.length := by rw [h.k]; exact h.kle
  let ρ' : Nat → Pl := fun i => if i < s.k then ρ i else ρ (ls.getD (i - s.k) 0)
  have htl : (s.ob.take s.k).length = s.k := by simp; omega
  generalize hob2 : renO (rnm s.k ls) (s.ob.take s.k ++ ls.map (obAt s.ob)) = ob2 at hQ
  have hlive : ∀ {i o}, Live (s.ob.take s.k ++ ls.map (obAt s.ob)) i o → (i < s.k ∧ Live s.ob i o) ∨ (s.k ≤ i ∧ ∃ hi : i - s.k < ls.length, Live s.ob ls[i - s.k] o) := by
    intro i o ho
    rcases live_app.1 ho with ho | ⟨hle, ho⟩
    · have hi := live_lt ho
      rw [htl] at hi
      refine .inl ⟨hi, ?_⟩
      unfold Live at ho ⊢
      rwa [List.getElem?_take, if_pos hi] at ho
    · rw [htl] at hle ho
      obtain ⟨hi, ho⟩ := live_map.1 ho
      exact .inr ⟨hle, hi, ho⟩
  have hplace : ∀ {i o}, Live ob2 i o → ∃ o1 j, o = renOb (rnm s.k ls) o1 ∧ Live s.ob j o1 ∧ ρ' i = ρ j ∧ ((i < s.k ∧ j = i) ∨ (s.k ≤ i ∧ ∃ hi : i - s.k < ls.length, j = ls[i - s.k])) := by
    intro i o ho
    rw [← hob2] at ho
    obtain ⟨o1, ho1, rfl⟩ := live_renO.1 ho
    rcases hlive ho1 with ⟨hi, ho⟩ | ⟨hle, hi, ho⟩
    · exact ⟨o1, i, rfl, ho, if_pos hi, .inl ⟨hi, rfl⟩⟩
    · refine ⟨o1, _, rfl, ho, ?_, .inr ⟨hle, hi, rfl⟩⟩
      show (if i < s.k then ρ i else ρ (ls.getD (i - s.k) 0)) = _
      rw [if_neg (by omega)]
      simp [List.getD, hi]
  have hY : ∀ b, F.Y ρ' ob2 b → F.Y ρ s.ob b := by
    rintro b (hx | ⟨i, o, ho, he⟩)
    · exact .inl hx
    · obtain ⟨o1, j, _, h1, h2, _⟩ := hplace ho
      rw [h2] at he
      exact .inr ⟨j, o1, h1, he⟩
  have hval : ∀ c x, (∀ l ∈ x.refs, l < s.k ∨ l ∈ ls) → RepC w (F.Y ρ s.ob) ρ s.ob c x → RepC w (F.Y ρ' ob2) ρ' ob2 c (x.ren (rnm s.k ls)) := by
    intro c x hx hc
    refine hc.ren _ (fun b _ hb => hY b hb) (fun l hl o ho => ?_)
    by_cases hlk : l < s.k
    · have hg : rnm s.k ls l = l := by
        unfold rnm
        have : Nat.blt l s.k = true := by simp [Nat.blt, Nat.ble_eq]; omega
        simp [this]
      rw [hg]
      refine ⟨renOb (rnm s.k ls) o, ?_, rfl, if_pos hlk⟩
      rw [← hob2]
      refine live_renO.2 ⟨o, live_app.2 (.inl ?_), rfl⟩
      unfold Live at ho ⊢
      rw [List.getElem?_take, if_pos hlk]; exact ho
    · have hmem : l ∈ ls := (hx l hl).resolve_left hlk
      have hidx := List.idxOf_lt_length_iff.2 hmem
      have hget : ls[ls.idxOf l] = l := List.getElem_idxOf hidx
      have hg : rnm s.k ls l = s.k + ls.idxOf l := by
        unfold rnm
        have : Nat.blt l s.k = false := by
          cases hb : Nat.blt l s.k with
          | false => rfl
          | true => simp [Nat.blt, Nat.ble_eq] at hb; omega
        simp [this]
      rw [hg]
      refine ⟨renOb (rnm s.k ls) o, ?_, rfl, ?_⟩
      · rw [← hob2]
        refine live_renO.2 ⟨o, live_app.2 (.inr ⟨by rw [htl]; omega, ?_⟩), rfl⟩
        rw [htl, Nat.add_sub_cancel_left]
        exact live_map.2 ⟨hidx, by rw [hget]; exact ho⟩
      · show (if s.k + ls.idxOf l < s.k then _ else ρ (ls.getD (s.k + ls.idxOf l - s.k) 0)) = _
        rw [if_neg (by omega), Nat.add_sub_cancel_left]
        simp [List.getD, hidx, hget]
  have hnodup : ∀ {i j : Nat} (hi : i < ls.length) (hj : j < ls.length), ls[i] = ls[j] → i = j := fun hi hj he => (List.getElem_inj hnd).1 he
  refine ⟨_, _, ρ', hQ, ?_, hval _ _ hrr hr⟩
  refine { os := h.heap.os, tape := h.heap.tape, output := h.heap.output, size := h.heap.size, frame := h.heap.frame, xlt := h.heap.xlt, obj := fun i o ho => ?_, fresh := fun i o ho => ?_, inj := fun i i' o o' ho ho' he => ?_, stay := fun i o hik ho => ?_ }
  · obtain ⟨o1, j, rfl, h1, h2, h3⟩ := hplace ho
    rw [h2]
    refine (h.heap.obj j o1 h1).ren _ fun q hq2 c g2 => ?_
    refine hval _ _ (fun l hl => ?_) g2
    have hl2 : l ∈ refsAt s.ob j := by rw [refsAt_live h1]; exact mem_refsL q hq2 hl
    rcases h3 with ⟨hi, rfl⟩ | ⟨hle, hi, rfl⟩
    · exact subK_get hio2 (refsIo_mem hi hl2)
    · exact subK_get hof (refsOf_mem (List.getElem_mem hi) hl2)
  · obtain ⟨o1, j, rfl, h1, h2, h3⟩ := hplace ho
    rw [h2]
    exact h.heap.fresh _ o1 h1
  · obtain ⟨o1, j, _, h1, h2, h3⟩ := hplace ho
    obtain ⟨o1', j', _, h1', h2', h3'⟩ := hplace ho'
    rw [h2, h2'] at he
    have hjj := h.heap.inj _ _ _ _ h1 h1' he
    rcases h3 with ⟨hi, rfl⟩ | ⟨hle, hi, rfl⟩ <;> rcases h3' with ⟨hi', rfl⟩ | ⟨hle', hi', rfl⟩
    · exact hjj
    · have := hlsk _ (List.getElem_mem hi'); omega
    · have := hlsk _ (List.getElem_mem hi); omega
    · have := hnodup hi hi' hjj; omega
  · rw [← h.k] at hik
    obtain ⟨o1, j, _, h1, h2, h3⟩ := hplace ho
    rcases h3 with ⟨_, rfl⟩ | ⟨hle, _⟩
    · rw [h2]; exact h.heap.stay _ o1 (by rw [← h.k]; exact hik) h1
    · omega


theorem lk_zip (xs : List V) (t : Nat) : ∀ (ts : List Nat) (xs : List V), ts.length = xs.length → lk t (ts.zip xs) = .junk ∨ ∃ i, ∃ h : i < ts.length, ∃ h' : i < xs.length, ts[i] = t ∧ lk t (ts.zip xs) = xs[i]
  | [], _, _ => .inl rfl
  | u :: ts, [], h => by cases h
  | u :: ts, x :: xs, h => by
    simp only [List.zip_cons_cons, lk]
    cases hb : Nat.beq u t with
    | true => exact .inr ⟨0, by simp, by simp, Nat.eq_of_beq_eq_true hb, rfl⟩
    | false =>
      rcases lk_zip xs t ts xs (by simpa using h) with h1 | ⟨i, h1, h2, h3, h4⟩
      · exact .inl h1
      · exact .inr ⟨i + 1, by simpa using h1, by simpa using h2, h3, h4⟩

/-- t is s, but for some slots and their objects forgotten, the objects in new numbers -/
def leP (s t : AState) : Prop := s.n = t.n ∧ s.k = t.k ∧ s.k ≤ s.ob.length ∧
  vRet s.k s.ob (.tup (t.sl.map fun q => s.get q.1)) fun r ob => ∃ xs, r = .tup xs ∧ leS ⟨s.n, s.k, (t.sl.map (·.1)).zip xs, ob⟩ t

theorem Sat.leP (h : Sat F s ρ a w) {t : AState} (hl : AG.leP s t) : ∃ ρ', Sat F t ρ' a w := by
  obtain ⟨hn, hk, hkl, hv⟩ := hl
  have hr : RepC w (F.Y ρ s.ob) ρ s.ob (.tuple ((t.sl.map fun q => a.tmps.getD q.1 undef).toArray)) (.tup (t.sl.map fun q => s.get q.1)) := by
    refine .tup (by simp) fun i hi => ?_
    have hi2 : i < t.sl.length := by simpa using hi
    have := h.slot (t.sl[i]).1
    simpa [Array.getD, hi2] using this
  have hlen : (s.ob.take s.k).length = s.k := by simp; omega
  obtain ⟨r', ob', ρ', ⟨⟨xs, rfl, hle⟩, hkb⟩, hh, hrep⟩ := h.ret hr (Q := fun r ob => (∃ xs, r = .tup xs ∧ leS ⟨s.n, s.k, (t.sl.map (·.1)).zip xs, ob⟩ t) ∧ s.k ≤ ob.length) (by
    unfold vRet vRet1 vRet2 vRet3 at hv ⊢
    exact ⟨hv.1, hv.2.1, hv.2.2.1, hv.2.2.2, by simp only [length_renO, List.length_append, hlen]; omega⟩)
  refine ⟨ρ', Sat.le (s := ⟨s.n, s.k, (t.sl.map (·.1)).zip xs, ob'⟩) ?_ hle⟩
  cases hrep with
  | d hd => cases hd
  | tup hs hx =>
    refine ⟨hh, h.dfs, h.size, h.k, by rw [← h.k]; exact hkb, fun u => ?_⟩
    have hl2 : (t.sl.map (·.1)).length = xs.length := by simpa using hs
    rcases lk_zip xs u (t.sl.map (·.1)) xs hl2 with h1 | ⟨i, h1, h2, h3, h4⟩
    · show RepC _ _ _ _ _ (lk u _)
      rw [h1]; exact .junk
    · show RepC _ _ _ _ _ (lk u _)
      rw [h4]
      have h1' : i < t.sl.length := by simpa using h1
      have := hx i h2
      have h3' : (t.sl[i]).1 = u := by simpa using h3
      simpa [Array.getD, h1', h3'] using this
end
end Go.AG

/-
  AG, part Je: a region whose order is open, whatever it holds: reads may be taken first where nothing that comes up writes what they read; the other operations come in their one order. Conditions: none.
-/
set_option linter.unusedSimpArgs false
set_option linter.unusedVariables false
namespace Go.AG

section
variable {P : Program} {ops : Array Oper} {md : Region.Mode} {Q : Exit → Act → World → Prop}

/-- in state a, in every world of the class, the operation yields v and leaves the world -/
def YieldsC (P : Program) (ops : Array Oper) (C : World → Prop) (o : Oper) (v : Value) (a : Act) : Prop :=
  (Region.wanted o (yielded ops a.tmps) = true ∧ ∀ w, C w → (execOp a.eval o).run P w = .ok (.value v) w) ∨
  (Region.wanted o (yielded ops a.tmps) = false ∧ v = undef)

theorem YieldsC.wpOp {C : World → Prop} {i : Nat} {o : Oper} {v : Value} {a : Act} (hi : ops[i]? = some o) (hy : YieldsC P ops C o v a) {K : Act → World → Prop} {w : World} (hw : C w) (h : K (a.put o.dst v) w) :
    Go.wpOp P ops Q i K a w := by
  unfold Go.wpOp
  simp only [hi]
  rcases hy with ⟨hw2, hv⟩ | ⟨hw2, rfl⟩
  · simp only [hw2, if_true, Oper.wp, hv w hw, Oper.upon]; exact .inl h
  · simp only [hw2, Bool.false_eq_true, if_false]; exact h

theorem YieldsC.of_same {C : World → Prop} {o : Oper} {v : Value} {a a' : Act} (hy : YieldsC P ops C o v a) (he : execOp a'.eval o = execOp a.eval o)
    (hw : Region.wanted o (yielded ops a'.tmps) = Region.wanted o (yielded ops a.tmps)) : YieldsC P ops C o v a' := by
  unfold YieldsC at *
  rw [he, hw]
  exact hy

theorem wpOp_putC {C : World → Prop} {j : Nat} {oi oj : Oper} {v : Value} (hj : ops[j]? = some oj) (hap : oi.apart ops oj = true)
    (hsi : ∀ cs b, oi.op ≠ .select cs b) (hsj : ∀ cs b, oj.op ≠ .select cs b)
    (hQ : ∀ c a w, Q (.panic c) (a.put oi.dst v) w → Q (.panic c) a w) {K : Act → World → Prop} {a : Act} {w : World}
    (hy : YieldsC P ops C oi v a) (h : wpOp P ops Q j K (a.put oi.dst v) w) :
    wpOp P ops Q j (fun a' w' => YieldsC P ops C oi v a' ∧ K (a'.put oi.dst v) w') a w := by
  obtain ⟨h1, h2, h3⟩ := Oper.apart_spec hap
  have keep : ∀ (a : Act), YieldsC P ops C oi v a → ∀ u, YieldsC P ops C oi v (a.put oj.dst u) := fun a hy u =>
    hy.of_same (execOp_put oi hsi a oj.dst u h3) (wanted_put oi a oj.dst u h3)
  have keepD : ∀ d, YieldsC P ops C oi v { a with defers := d :: a.defers } := fun d => hy.of_same rfl rfl
  unfold wpOp at *
  simp only [hj] at *
  rw [wanted_put oj a oi.dst v h1] at h
  split
  · rename_i hw
    simp only [hw, if_true] at h
    rcases h with h | ⟨hasks, hlets⟩
    case inr => exact .inr ⟨by unfold Oper.asks at *; rw [execOp_put oj hsj a oi.dst v h1] at hasks; exact hasks, hlets⟩
    refine .inl ?_
    unfold Oper.wp at *
    rw [execOp_put oj hsj a oi.dst v h1] at h
    generalize (execOp a.eval oj).run P w = r at *
    cases r with
    | ok n w' =>
      cases n <;> simp only [Oper.upon] at h ⊢
      case value u => exact ⟨keep a hy u, by rw [← Act.put_comm a v u h2]; exact h⟩
      case skip => exact ⟨keep a hy _, by rw [← Act.put_comm a v undef h2]; exact h⟩
      case defer d =>
        refine ⟨keep _ (keepD d) _, ?_⟩
        rw [← Act.put_comm _ v undef h2, ← Act.put_defers]
        exact h
      case enter f args =>
        refine Calls.mono h fun e w'' he => ?_
        cases e with
        | returned u => exact ⟨keep a hy u, by rw [← Act.put_comm a v u h2]; exact he⟩
        | panicked c => exact hQ _ _ _ he
        | outgrown => exact he
      case row row args => exact Rows.mono h fun u w'' he => ⟨keep a hy u, by rw [← Act.put_comm a v u h2]; exact he⟩
    | halt x w' =>
      cases x <;> simp only [Oper.upon] at h ⊢
      case panic u => exact hQ _ _ _ h
  · rename_i hw
    simp only [hw] at h
    exact ⟨keep a hy _, by rw [← Act.put_comm a v undef h2]; exact h⟩

/-- every order; behind each of the first n operations the world is of the class -/
def wpAnyC (P : Program) (md : Region.Mode) (ops : Array Oper) (n : Nat) (Q : Exit → Act → World → Prop) (C : World → Prop) : Nat → Array Bool → Act → World → Prop
  | 0, listed, a, w => Region.ready md ops listed = [] ∧ Q .normal a w
  | f + 1, listed, a, w => (Region.ready md ops listed = [] → Q .normal a w) ∧
    ∀ i ∈ Region.ready md ops listed, wpOp P ops Q i (fun a' w' => (i < n → C w') ∧ wpAnyC P md ops n Q C f (listed.setIfInBounds i true) a' w') a w

theorem wpAny_of_C {n : Nat} {C : World → Prop} : ∀ (f : Nat) (listed : Array Bool) (a : Act) (w : World), wpAnyC P md ops n Q C f listed a w → wpAny P md ops Q f listed a w
  | 0, _, _, _, h => h
  | f + 1, listed, a, w, h => ⟨h.1, fun i hi => wpOp_mono (fun a' w' h' => wpAny_of_C f _ a' w' h'.2) (h.2 i hi)⟩

theorem wpAnyC_first {n i : Nat} {oi : Oper} {v : Value} {C R : World → Prop} (hi : ops[i]? = some oi) (hsel : ∀ (j : Nat) (o : Oper) cs b, ops[j]? = some o → o.op ≠ .select cs b)
    (hQ : ∀ c a w, Q (.panic c) (a.put oi.dst v) w → Q (.panic c) a w)
    (hjn : ∀ listed, HeadInv md ops n listed → listed.getD i true = false → ∀ j ∈ Region.ready md ops listed, j < n) :
    ∀ (f : Nat) (listed : Array Bool) (a : Act) (w : World), HeadInv md ops n listed →
      (∀ j oj, ops[j]? = some oj → j ≠ i → listed.getD j true = false → (∀ e ∈ oj.after, Region.binds md e = true → e.on ≠ i) → oi.apart ops oj = true) →
      i ∈ Region.ready md ops listed → YieldsC P ops R oi v a → C w → R w →
      wpAnyC P md ops n Q (fun w => C w ∧ R w) f (listed.setIfInBounds i true) (a.put oi.dst v) w → wpAnyC P md ops n Q C (f + 1) listed a w := by
  have weaken : ∀ (f : Nat) (listed : Array Bool) (a : Act) (w : World), wpAnyC P md ops n Q (fun w => C w ∧ R w) f listed a w → wpAnyC P md ops n Q C f listed a w := by
    intro f
    induction f with
    | zero => intro _ _ _ h; exact h
    | succ f ih => intro listed a w h; exact ⟨h.1, fun j hj => wpOp_mono (fun a' w' h' => ⟨fun hn => (h'.1 hn).1, ih _ _ _ h'.2⟩) (h.2 j hj)⟩
  intro f
  induction f with
  | zero =>
    intro listed a w inv _ hr hy hC hR H
    refine ⟨fun h => (by rw [h] at hr; cases hr), fun j hj => ?_⟩
    by_cases hji : j = i
    · subst hji; exact hy.wpOp hi hR ⟨fun _ => hC, weaken _ _ _ _ H⟩
    · have := ready_mono hj hji
      rw [H.1] at this
      cases this
  | succ f ih =>
    intro listed a w inv hfree hr hy hC hR H
    have hun := (mem_ready.1 hr).1
    refine ⟨fun h => (by rw [h] at hr; cases hr), fun j hj => ?_⟩
    by_cases hji : j = i
    · subst hji; exact hy.wpOp hi hR ⟨fun _ => hC, weaken _ _ _ _ H⟩
    · have hjlt := hjn listed inv hun j hj
      have h1 := H.2 j (ready_mono hj hji)
      obtain ⟨hjun, oj, hoj, hall⟩ := mem_ready.1 hj
      have hnot : ∀ e ∈ oj.after, Region.binds md e = true → e.on ≠ i := fun e he hb heq => by
        have h1 := hall e he hb
        rw [heq, getD_both hun] at h1
        cases h1
      have h2 := wpOp_putC hoj (hfree j oj hoj hji hjun hnot) (fun cs b => hsel i oi cs b hi) (fun cs b => hsel j oj cs b hoj) hQ hy h1
      have hfree' : ∀ k ok, ops[k]? = some ok → k ≠ i → (listed.setIfInBounds j true).getD k true = false →
          (∀ e ∈ ok.after, Region.binds md e = true → e.on ≠ i) → oi.apart ops ok = true := fun k ok hk hki hkun hno => by
        refine hfree k ok hk hki ?_ hno
        by_cases hjk : j = k
        · subst hjk; exact hjun
        · rw [getD_set_ne true hjk] at hkun; exact hkun
      refine wpOp_mono (fun a' w' h3 => ⟨fun hn => (h3.2.1 hn).1, ?_⟩) h2
      refine ih (listed.setIfInBounds j true) a' w' (inv.set hj hjlt) hfree' (ready_mono hr (Ne.symm hji)) h3.1 (h3.2.1 hjlt).1 (h3.2.1 hjlt).2 ?_
      rw [Array.setIfInBounds_comm _ _ hji]
      exact h3.2.2

/-- the tail, in its own order -/
theorem wpAnyC_of_seq {n : Nat} {C : World → Prop} : ∀ (l : List Oper) (k : Nat) (listed : Array Bool) (a : Act) (w : World), n ≤ k → (∀ j, l[j]? = ops[k + j]?) →
    Region.seqB md ops l.length k listed = true → wpList P ops Q l a w → wpAnyC P md ops n Q C l.length listed a w
  | [], _, _, _, _, _, _, hB, h => ⟨by simpa [Region.seqB] using hB, h⟩
  | o :: l, k, listed, a, w, hnk, hl, hB, h => by
    have h0 : ops[k]? = some o := by simpa using (hl 0).symm
    simp only [List.length_cons, Region.seqB, Bool.and_eq_true, decide_eq_true_eq] at hB
    refine ⟨fun h1 => (by rw [hB.1] at h1; cases h1), fun i hi => ?_⟩
    rw [hB.1] at hi
    have hik : i = k := by simpa using hi
    subst hik
    have hrest : ∀ a' w', wpList P ops Q l a' w' → (i < n → C w') ∧ wpAnyC P md ops n Q C l.length (listed.setIfInBounds i true) a' w' := fun a' w' h' =>
      ⟨fun hlt => by omega, wpAnyC_of_seq l (i + 1) _ a' w' (by omega) (fun j => by have := hl (j + 1); simpa [Nat.add_assoc, Nat.add_comm 1 j] using this) hB.2 h'⟩
    unfold wpOp
    simp only [h0]
    unfold wpList at h
    split
    · rename_i hw
      simp only [hw, if_true] at h
      exact h.imp (Oper.wp_mono hrest) id
    · rename_i hw
      simp only [hw] at h
      exact hrest _ _ h

/-- the reads -/
def rdB : Op → Bool
  | .move _ => true
  | .assign _ => true
  | .pick _ _ _ => true
  | .load _ _ => true
  | .nilCheck _ => true
  | .binOp _ _ _ _ _ => true
  | .unOp _ _ _ => true
  | .convert _ _ _ => true
  | .fieldAddr _ _ _ => true
  | .field _ _ _ => true
  | .indexAddr _ _ _ => true
  | .index _ _ _ => true
  | .slice _ _ _ _ _ => true
  | .extract _ _ => true
  | .makeFunc _ _ _ => true
  | .makeInterface _ _ => true
  | .lookup _ _ _ _ => true
  | .call { callee := .builtin .len, .. } => true
  | .call { callee := .builtin .min, .. } => true
  | .call { callee := .builtin .max, .. } => true
  | _ => false

/-- one order of the head serves all: a read that may come up now and is apart from the rest, or the one operation that may come up; then the tail -/
def schB (md : Region.Mode) (ops : Array Oper) (n : Nat) : List (Nat × Bool) → Array Bool → Bool
  | [], listed => Region.seqB md ops (ops.size - n) n listed
  | q :: r, listed => decide (q.1 < n) && (match ops[q.1]? with
      | some o => bif q.2 then rdB o.op && decide (Region.ready md ops listed = [q.1]) else bif rdB o.op then (Region.ready md ops listed).contains q.1 && Region.free md ops listed q.1 else decide (Region.ready md ops listed = [q.1])
      | none => false) && schB md ops n r (listed.setIfInBounds q.1 true)
def schOk (md : Region.Mode) (ops : Array Oper) (n : Nat) (sch : List (Nat × Bool)) : Bool :=
  Region.noSelect ops && (decide (n = ops.size) || (decide (n < ops.size) && Region.sinkB md ops n && Region.chainB md ops n)) && schB md ops n sch (Array.replicate ops.size false) && decide (sch.length = n)

/-- a tree of schedules: 'rd' takes a read first, 'alt' holds the branches where several operations may come up -/
inductive Tr (α : Type) where
  | done : Tr α
  | stop : Tr α
  | rd (x : α) (t : Tr α) : Tr α
  | alt (x : α) (t r : Tr α) : Tr α
def Tr.map {α β : Type} (f : α → β) : Tr α → Tr β
  | .done => .done
  | .stop => .stop
  | .rd x t => .rd (f x) (t.map f)
  | .alt x t r => .alt (f x) (t.map f) (r.map f)
def Tr.heads : Tr Nat → List Nat
  | .alt k _ r => k :: r.heads
  | _ => []
/-- the tree serves all orders of the head; then the tail -/
def trB (md : Region.Mode) (ops : Array Oper) (n : Nat) : Tr Nat → Nat → Bool → Array Bool → Bool
  | .done, 0, true, listed => Region.seqB md ops (ops.size - n) n listed
  | .stop, _ + 1, false, _ => true
  | .rd k t, m + 1, true, listed => decide (k < n) && (match ops[k]? with
      | some o => rdB o.op && (Region.ready md ops listed).contains k && Region.free md ops listed k
      | none => false) && trB md ops n t m true (listed.setIfInBounds k true)
  | .alt k t r, m + 1, top, listed => decide (k < n) && (match ops[k]? with
      | some o => !rdB o.op
      | none => false) && (!top || decide (Region.ready md ops listed = k :: r.heads)) && trB md ops n t m true (listed.setIfInBounds k true) && trB md ops n r (m + 1) false listed
  | _, _, _, _ => false
def trOk (md : Region.Mode) (ops : Array Oper) (n : Nat) (t : Tr Nat) : Bool :=
  Region.noSelect ops && (decide (n = ops.size) || (decide (n < ops.size) && Region.sinkB md ops n && Region.chainB md ops n)) && trB md ops n t n true (Array.replicate ops.size false)

theorem head_lt {n : Nat} (h : n = ops.size ∨ (n < ops.size ∧ Region.sinkB md ops n = true ∧ Region.chainB md ops n = true)) {i : Nat} (hin : i < n) (listed : Array Bool) (inv : HeadInv md ops n listed) (hun : listed.getD i true = false) :
    ∀ j ∈ Region.ready md ops listed, j < n := by
  intro j hj
  rcases h with rfl | ⟨h1, h2, h3⟩
  · obtain ⟨_, o, ho, _⟩ := mem_ready.1 hj
    exact (Array.getElem?_eq_some_iff.1 ho).1
  · rcases Nat.lt_or_ge j n with h | h
    · exact h
    · exact absurd hj (tail_waits h2 h3 h1 inv _ i rfl hin hun j h)
end
end Go.AG

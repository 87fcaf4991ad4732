/-
  AG, part J: contracts, what a call gives its caller, and what a function gives back. Conditions: none.
-/
import Derived.Test.YtkgfpephkinocaaAgI
set_option linter.unusedSimpArgs false
set_option linter.unusedVariables false
namespace Go.AG
open Go.RowKit

mutual
def V.ren (g : Nat → Nat) : V → V
  | .ref l off len => .ref (g l) off len
  | .ptr l off => .ptr (g l) off
  | .fn f caps => .fn f (V.renL g caps)
  | .agg xs => .agg (V.renL g xs)
  | .tup xs => .tup (V.renL g xs)
  | .sc v => .sc v
  | .sl len xs => .sl len xs
  | .ip xs off => .ip xs off
  | .junk => .junk
def V.renL (g : Nat → Nat) : List V → List V
  | [] => []
  | x :: xs => V.ren g x :: V.renL g xs
end

mutual
def V.refs : V → List Nat
  | .ref l _ _ => [l]
  | .ptr l _ => [l]
  | .fn _ caps => V.refsL caps
  | .agg xs => V.refsL xs
  | .tup xs => V.refsL xs
  | .sc _ => []
  | .sl _ _ => []
  | .ip _ _ => []
  | .junk => []
def V.refsL : List V → List Nat
  | [] => []
  | x :: xs => V.refs x ++ V.refsL xs
end

mutual
def V.flat : V → Bool
  | .sc _ => true
  | .sl _ xs => xs.isEmpty
  | .ip _ _ => false
  | .ref _ _ _ => true
  | .ptr _ _ => true
  | .fn _ caps => V.flatL caps
  | .agg xs => V.flatL xs
  | .tup xs => V.flatL xs
  | .junk => true
def V.flatL : List V → Bool
  | [] => true
  | x :: xs => V.flat x && V.flatL xs
end

mutual
def V.noref : V → Bool
  | .sc _ => true
  | .sl _ _ => true
  | .ip _ _ => true
  | .ref _ _ _ => false
  | .ptr _ _ => false
  | .fn _ caps => V.norefL caps
  | .agg xs => V.norefL xs
  | .tup xs => V.norefL xs
  | .junk => true
def V.norefL : List V → Bool
  | [] => true
  | x :: xs => V.noref x && V.norefL xs
end

theorem renL_eq (g : Nat → Nat) (xs : List V) : V.renL g xs = xs.map (V.ren g) := by
  induction xs with
  | nil => simp [V.renL]
  | cons x xs ih => simp [V.renL, ih]
theorem mem_refsL {xs : List V} {l : Nat} (i : Nat) (hi : i < xs.length) (h : l ∈ xs[i].refs) : l ∈ V.refsL xs := by
  induction xs generalizing i with
  | nil => simp at hi
  | cons x xs ih =>
    simp only [V.refsL, List.mem_append]
    cases i with
    | zero => exact .inl h
    | succ i => exact .inr (ih i (by simpa using hi) h)
theorem flatL_get {xs : List V} (h : V.flatL xs = true) (i : Nat) (hi : i < xs.length) : xs[i].flat = true := by
  induction xs generalizing i with
  | nil => simp at hi
  | cons x xs ih =>
    simp only [V.flatL, Bool.and_eq_true] at h
    cases i with
    | zero => exact h.1
    | succ i => exact ih h.2 i (by simpa using hi)
theorem norefL_get {xs : List V} (h : V.norefL xs = true) (i : Nat) (hi : i < xs.length) : xs[i].noref = true := by
  induction xs generalizing i with
  | nil => simp at hi
  | cons x xs ih =>
    simp only [V.norefL, Bool.and_eq_true] at h
    cases i with
    | zero => exact h.1
    | succ i => exact ih h.2 i (by simpa using hi)

theorem RepD.ren {w : World} {X : Nat → Prop} {v : Value} {x : V} (h : RepD w X v x) (g : Nat → Nat) : x.ren g = x := by
  induction h with
  | sc v => rfl
  | nil => rfl
  | sl0 => rfl
  | sl => rfl
  | ip => rfl
  | @fn f cs caps hs hr ih =>
    simp only [V.ren, renL_eq]
    congr 1
    apply List.ext_getElem (by simp)
    intro i h1 h2
    simp only [List.getElem_map]
    exact ih i h2

theorem RepC.ren {w : World} {Y Y' : Nat → Prop} {ρ ρ' : Nat → Pl} {ob ob' : Objs} {v : Value} {x : V} (h : RepC w Y ρ ob v x) (g : Nat → Nat)
    (hY : ∀ b, b < w.heap.size → Y' b → Y b) (hob : ∀ l, l ∈ x.refs → ∀ o, Live ob l o → ∃ o', Live ob' (g l) o' ∧ o'.esz = o.esz ∧ ρ' (g l) = ρ l) : RepC w Y' ρ' ob' v (x.ren g) := by
  induction h with
  | d h => rw [h.ren]; exact .d (h.mono (fun _ _ _ h => h) hY)
  | @ref l off len cap o ho hl hc hs =>
    obtain ⟨o', h1, h2, h3⟩ := hob l (by simp [V.refs]) o ho
    simp only [V.ren]
    rw [← h3]
    exact .ref h1 hl hc (by rw [h3, h2]; exact hs)
  | @ref0 l off o p' ho =>
    obtain ⟨o', h1, h2, h3⟩ := hob l (by simp [V.refs]) o ho
    simp only [V.ren]
    rw [← h3]
    exact .ref0 h1
  | @ptr l off o ho =>
    obtain ⟨o', h1, h2, h3⟩ := hob l (by simp [V.refs]) o ho
    simp only [V.ren]
    rw [← h3]
    exact .ptr h1
  | @fn f cs caps hs hr ih =>
    simp only [V.ren, renL_eq]
    exact .fn (by simpa using hs) (fun i hi => by simpa using ih i (by simpa using hi) (fun l hl => hob l (by simp only [V.refs]; exact mem_refsL i _ hl)))
  | @agg cs xs hs hr ih =>
    simp only [V.ren, renL_eq]
    exact .agg (by simpa using hs) (fun i hi => by simpa using ih i (by simpa using hi) (fun l hl => hob l (by simp only [V.refs]; exact mem_refsL i _ hl)))
  | @tup cs xs hs hr ih =>
    simp only [V.ren, renL_eq]
    exact .tup (by simpa using hs) (fun i hi => by simpa using ih i (by simpa using hi) (fun l hl => hob l (by simp only [V.refs]; exact mem_refsL i _ hl)))
  | junk => exact .junk

theorem RepD.flatY {w : World} {X X' : Nat → Prop} {v : Value} {x : V} (h : RepD w X v x) (hf : x.flat = true) : RepD w X' v x := by
  induction h with
  | sc v => exact .sc v
  | nil => exact .nil
  | sl0 a => exact .sl0 a
  | @sl b o len cap xs cs h1 hr hx hl ih =>
    simp only [V.flat, List.isEmpty_iff] at hf
    subst hf
    exact .sl cs h1 (fun i hi => absurd hi (by simp)) (fun h => absurd rfl h) hl
  | ip => simp [V.flat] at hf
  | fn hs hr ih => exact .fn hs (fun i hi => ih i hi (flatL_get hf i hi))

theorem RepC.flatY {w : World} {Y Y' : Nat → Prop} {ρ : Nat → Pl} {ob : Objs} {v : Value} {x : V} (h : RepC w Y ρ ob v x) (hf : x.flat = true) : RepC w Y' ρ ob v x := by
  induction h with
  | d h => exact .d (h.flatY hf)
  | ref ho hl hc hs => exact .ref ho hl hc hs
  | ref0 ho => exact .ref0 ho
  | ptr ho => exact .ptr ho
  | fn hs hr ih => exact .fn hs (fun i hi => ih i hi (flatL_get hf i hi))
  | agg hs hr ih => exact .agg hs (fun i hi => ih i hi (flatL_get hf i hi))
  | tup hs hr ih => exact .tup hs (fun i hi => ih i hi (flatL_get hf i hi))
  | junk => exact .junk

mutual
theorem flat_ren (g : Nat → Nat) (x : V) : (x.ren g).flat = x.flat := by
  cases x with
  | fn f caps => simp only [V.ren, V.flat]; exact flat_renL g caps
  | agg xs => simp only [V.ren, V.flat]; exact flat_renL g xs
  | tup xs => simp only [V.ren, V.flat]; exact flat_renL g xs
  | _ => rfl
theorem flat_renL (g : Nat → Nat) (xs : List V) : V.flatL (V.renL g xs) = V.flatL xs := by
  cases xs with
  | nil => rfl
  | cons x xs => simp only [V.renL, V.flatL]; rw [flat_ren g x, flat_renL g xs]
end

theorem RepC.unref {w : World} {Y : Nat → Prop} {ρ ρ' : Nat → Pl} {ob ob' : Objs} {v : Value} {x : V} (h : RepC w Y ρ ob v x) (hf : x.noref = true) : RepC w Y ρ' ob' v x := by
  induction h with
  | d h => exact .d h
  | ref => simp [V.noref] at hf
  | ref0 => simp [V.noref] at hf
  | ptr => simp [V.noref] at hf
  | fn hs hr ih => exact .fn hs (fun i hi => ih i hi (norefL_get hf i hi))
  | agg hs hr ih => exact .agg hs (fun i hi => ih i hi (norefL_get hf i hi))
  | tup hs hr ih => exact .tup hs (fun i hi => ih i hi (norefL_get hf i hi))
  | junk => exact .junk

/-- all objects hold deep immutable values -/
def immO : Objs → Bool
  | [] => true
  | some o :: r => V.immL o.cells && immO r
  | none :: r => immO r
def flatO : Objs → Bool
  | [] => true
  | some o :: r => V.flatL o.cells && flatO r
  | none :: r => flatO r

theorem immO_live {ob : Objs} (h : immO ob = true) {l : Nat} {o : Ob} (ho : Live ob l o) : V.immL o.cells = true := by
  induction ob generalizing l with
  | nil => simp [Live] at ho
  | cons x r ih =>
    cases l with
    | zero => cases x <;> simp [Live] at ho; subst ho; simp only [immO, Bool.and_eq_true] at h; exact h.1
    | succ l =>
      have h2 : immO r = true := by cases x <;> simp only [immO, Bool.and_eq_true] at h; exact h; exact h.2
      exact ih h2 (by simpa [Live] using ho)
theorem immO_of {ob : Objs} (h : ∀ l o, Live ob l o → V.immL o.cells = true) : immO ob = true := by
  induction ob with
  | nil => rfl
  | cons x r ih =>
    have hr : immO r = true := ih (fun l o ho => h (l + 1) o (by simpa [Live] using ho))
    cases x with
    | none => exact hr
    | some o => simp only [immO, Bool.and_eq_true]; exact ⟨h 0 o rfl, hr⟩
theorem flatO_live {ob : Objs} (h : flatO ob = true) {l : Nat} {o : Ob} (ho : Live ob l o) : V.flatL o.cells = true := by
  induction ob generalizing l with
  | nil => simp [Live] at ho
  | cons x r ih =>
    cases l with
    | zero => cases x <;> simp [Live] at ho; subst ho; simp only [flatO, Bool.and_eq_true] at h; exact h.1
    | succ l =>
      have h2 : flatO r = true := by cases x <;> simp only [flatO, Bool.and_eq_true] at h; exact h; exact h.2
      exact ih h2 (by simpa [Live] using ho)

/-- a function with a body of its own -/
def HasBody (P : Program) (f : FuncId) : Prop := ∃ fn, P.funcs[f]? = some fn ∧ (fn.name == "runtime.NumGoroutine") = false ∧ fn.body.isNone = false

/-- THE CONTRACT: called with values that read as 'args' (objects of the caller's: 'ob'), the function returns; its result and the objects behind the call are as Q says -/
def ACalls (P : Program) (f : FuncId) (args : List V) (ob : Objs) (Q : V → Objs → Prop) : Prop :=
  HasBody P f ∧ ∀ (w : World) (X : Nat → Prop) (ρ : Nat → Pl) (vs : Array Value), vs.size = args.length →
    HOk ⟨w, X, ownB ρ ob, ob.length, ρ⟩ w ρ ob →
    (∀ i (h : i < args.length), RepC w (Fr.Y ⟨w, X, ownB ρ ob, ob.length, ρ⟩ ρ ob) ρ ob (vs.getD i undef) args[i]) →
    Calls P f vs w fun e w' => ∃ v r ob' ρ', e = .returned v ∧ Q r ob' ∧ immO ob' = true ∧ HOk ⟨w, X, ownB ρ ob, ob.length, ρ⟩ w' ρ' ob' ∧
      RepC w' (Fr.Y ⟨w, X, ownB ρ ob, ob.length, ρ⟩ ρ' ob') ρ' ob' v r

theorem ACalls.mono {P : Program} {f : FuncId} {args : List V} {ob : Objs} {Q Q' : V → Objs → Prop} (h : ACalls P f args ob Q) (hq : ∀ r o, Q r o → Q' r o) : ACalls P f args ob Q' :=
  ⟨h.1, fun w X ρ vs h1 h2 h3 => (h.2 w X ρ vs h1 h2 h3).mono fun e w' ⟨v, r, o, ρ', he, hQ, hi, hh, hr⟩ => ⟨v, r, o, ρ', he, hq r o hQ, hi, hh, hr⟩⟩

/-- the objects that can be looked at from outside -/
def viewF (ob : Objs) : Nat → Option Ob := fun l => match ob[l]? with
  | some (some o) => bif V.immL o.cells then some o else none
  | _ => none

theorem viewF_some {ob : Objs} {l : Nat} {o : Ob} (h : viewF ob l = some o) : Live ob l o ∧ V.immL o.cells = true := by
  unfold viewF at h
  split at h
  · rename_i o' ho
    cases hb : V.immL o'.cells with
    | true => simp [hb] at h; subst h; exact ⟨ho, hb⟩
    | false => simp [hb] at h
  · cases h

section
variable {P : Program} {F : Fr} {s : AState} {ρ : Nat → Pl} {a : Act} {w : World}

theorem own_nil {ρ : Nat → Pl} {b : Nat} : ¬ ownB ρ [] b := by
  rintro ⟨l, o, h, _⟩
  simp [Live] at h

theorem live_app {ob ob' : Objs} {l : Nat} {o : Ob} : Live (ob ++ ob') l o ↔ (Live ob l o ∨ (ob.length ≤ l ∧ Live ob' (l - ob.length) o)) := by
  unfold Live
  rw [List.getElem?_append]
  split
  · rename_i h
    constructor
    · exact .inl
    · rintro (h' | ⟨h', _⟩)
      · exact h'
      · omega
  · rename_i h
    constructor
    · intro h'; exact .inr ⟨by omega, h'⟩
    · rintro (h' | ⟨_, h'⟩)
      · rw [List.getElem?_eq_none (by omega)] at h'; cases h'
      · exact h'

/-- the world from which a pure callee sets out -/
theorem Sat.callee (h : Sat F s ρ a w) (X : Nat → Prop) (hX : ∀ b, X b → F.Y ρ s.ob b) : HOk ⟨w, X, ownB ρ [], 0, ρ⟩ w ρ [] where
  os := rfl
  tape := rfl
  output := rfl
  size := Nat.le_refl _
  frame := fun _ _ _ => rfl
  xlt := fun b hb => by
    refine ⟨?_, own_nil⟩
    rcases hX b hb with h1 | ⟨l, o, ho, rfl⟩
    · exact Nat.lt_of_lt_of_le (h.heap.xlt b h1).1 h.heap.size
    · exact h.heap.blk_lt ho
  obj := fun l o ho => by simp [Live] at ho
  fresh := fun l o ho => by simp [Live] at ho
  inj := fun l _ o _ ho => by simp [Live] at ho
  stay := fun l o _ ho => by simp [Live] at ho

/-- what a pure call leaves its caller -/
theorem Sat.called (h : Sat F s ρ a w) {X : Nat → Prop} {w' : World} {ρ1 : Nat → Pl} {ob1 : Objs} {v : Value} {r : V}
    (hh : HOk ⟨w, X, ownB ρ [], 0, ρ⟩ w' ρ1 ob1) (hi : immO ob1 = true) (hr : RepC w' (Fr.Y ⟨w, X, ownB ρ [], 0, ρ⟩ ρ1 ob1) ρ1 ob1 v r)
    (hc : (∀ b, F.Y ρ s.ob b → X b) ∨ (r.flat = true ∧ flatO ob1 = true)) :
    ∃ ρ2, Sat F { s with ob := s.ob ++ ob1 } ρ2 a w' ∧ RepC w' (F.Y ρ2 (s.ob ++ ob1)) ρ2 (s.ob ++ ob1) v (r.ren fun l => l + s.ob.length) ∧ Moved [] s ρ w { s with ob := s.ob ++ ob1 } ρ2 w' := by
  let ρ2 : Nat → Pl := fun l => if l < s.ob.length then ρ l else ρ1 (l - s.ob.length)
  have h2a : ∀ l, l < s.ob.length → ρ2 l = ρ l := fun l hl => if_pos hl
  have h2b : ∀ l, s.ob.length ≤ l → ρ2 l = ρ1 (l - s.ob.length) := fun l hl => if_neg (by omega)
  have hfr : ∀ b, b < w.heap.size → w'.heap[b]? = w.heap[b]? := fun b hb => hh.frame b hb own_nil
  have hfresh : ∀ l o, Live ob1 l o → w.heap.size ≤ (ρ1 l).blk := fun l o ho => by
    rcases hh.fresh l o ho with ⟨_, h1⟩ | h1
    · simp at h1
    · exact h1
  have hY : ∀ b, b < w.heap.size → F.Y ρ2 (s.ob ++ ob1) b → F.Y ρ s.ob b := by
    rintro b hb (hx | ⟨l, o, ho, he⟩)
    · exact .inl hx
    · rcases live_app.1 ho with ho | ⟨hle, ho⟩
      · rw [h2a l (live_lt ho)] at he; exact .inr ⟨l, o, ho, he⟩
      · rw [h2b l hle] at he; have := hfresh _ o ho; omega
  have hYn : ∀ b, F.Y ρ2 (s.ob ++ ob1) b → F.Y ρ s.ob b ∨ ownB ρ1 ob1 b := by
    rintro b (hx | ⟨l, o, ho, he⟩)
    · exact .inl (.inl hx)
    · rcases live_app.1 ho with ho | ⟨hle, ho⟩
      · rw [h2a l (live_lt ho)] at he; exact .inl (.inr ⟨l, o, ho, he⟩)
      · rw [h2b l hle] at he; exact .inr ⟨_, o, ho, he⟩
  have hτ : ∀ v x, RepC w (F.Y ρ s.ob) ρ s.ob v x → RepC w' (F.Y ρ2 (s.ob ++ ob1)) ρ2 (s.ob ++ ob1) v x := by
    intro v x hx
    exact hx.mono' (fun a c _ hcell => by
      rw [← hcell]; exact World.cell?_of_block (hfr _ (World.block_lt_of_cell? w a hcell))) hY (fun l o ho => ⟨o, live_app.2 (.inl ho), rfl, h2a l (live_lt ho)⟩)
  have hD : ∀ c x, RepC w' (Fr.Y ⟨w, X, ownB ρ [], 0, ρ⟩ ρ1 ob1) ρ1 ob1 c x → x.imm = true → ((∀ b, F.Y ρ s.ob b → X b) ∨ x.flat = true) → RepC w' (F.Y ρ2 (s.ob ++ ob1)) ρ2 (s.ob ++ ob1) c x := by
    intro c x hx hi hc
    rcases hc with hc | hc
    · exact .d ((hx.toD hi).mono (fun _ _ _ h => h) (fun b _ hb => by
        rcases hYn b hb with h1 | h1
        · exact .inl (hc b h1)
        · exact .inr h1))
    · exact .d ((hx.toD hi).flatY hc)
  have hk : HOk F w' ρ2 (s.ob ++ ob1) := by
    refine h.heap.step id hh.os hh.tape hh.output hh.size (fun b hb hio => hfr b (Nat.lt_of_lt_of_le hb h.heap.size)) hτ (fun l o ho => ?_) (fun l l' o o' ho ho' he => ?_)
    · rcases live_app.1 ho with ho | ⟨hle, ho⟩
      · exact .inl ⟨o, ho, by simp, h2a l (live_lt ho), hfr _ (h.heap.blk_lt ho)⟩
      · obtain ⟨hrow, hfit, hcell⟩ := hh.obj _ o ho
        rw [h2b l hle]
        refine .inr ⟨⟨hrow, hfit, fun i hi' => ?_⟩, .inr (Nat.le_trans h.heap.size (hfresh _ o ho)), fun hlt => ?_⟩
        · obtain ⟨c, g1, g2, g3⟩ := hcell i hi'
          refine ⟨c, g1, hD _ _ g2 ((immL_iff _).1 (immO_live hi ho) i hi') ?_, g3⟩
          rcases hc with hc | ⟨_, hc⟩
          · exact .inl hc
          · exact .inr (flatL_get (flatO_live hc ho) i hi')
        · have := h.kle; omega
    · rcases live_app.1 ho with ho | ⟨hle, ho⟩ <;> rcases live_app.1 ho' with ho' | ⟨hle', ho'⟩
      · rw [h2a _ (live_lt ho), h2a _ (live_lt ho')] at he; exact h.heap.inj _ _ _ _ ho ho' he
      · rw [h2a _ (live_lt ho), h2b _ hle'] at he
        have := h.heap.blk_lt ho; have := hfresh _ _ ho'; omega
      · rw [h2a _ (live_lt ho'), h2b _ hle] at he
        have := h.heap.blk_lt ho'; have := hfresh _ _ ho; omega
      · rw [h2b _ hle, h2b _ hle'] at he
        have := hh.inj _ _ _ _ ho ho' he; omega
  refine ⟨ρ2, h.of_heap_id hk (by simpa using Nat.le_trans h.kle (Nat.le_add_right _ _)) hτ, ?_, ⟨hh.size, fun b hb _ => hfr b hb, fun l o' ho => by
    rcases live_app.1 ho with ho | ⟨hle, ho⟩
    · exact .inl ⟨o', ho, by rw [h2a l (live_lt ho)]⟩
    · exact .inr (by rw [h2b l hle]; exact hfresh _ o' ho)⟩⟩
  have hren : RepC w' (Fr.Y ⟨w, X, ownB ρ [], 0, ρ⟩ ρ1 ob1) ρ2 (s.ob ++ ob1) v (r.ren fun l => l + s.ob.length) :=
    hr.ren _ (fun _ _ h => h) (fun l _ o ho => ⟨o, live_app.2 (.inr ⟨by omega, by simpa using ho⟩), rfl, by rw [h2b _ (by omega)]; simp⟩)
  rcases hc with hc | ⟨hc, _⟩
  · exact hren.mono' (fun _ _ _ h => h) (fun b _ hb => by
      rcases hYn b hb with h1 | h1
      · exact .inl (hc b h1)
      · exact .inr h1) (fun l o ho => ⟨o, ho, rfl, rfl⟩)
  · have hfl : (r.ren fun l => l + s.ob.length).flat = true := by rw [flat_ren]; exact hc
    exact hren.flatY hfl

end
end Go.AG

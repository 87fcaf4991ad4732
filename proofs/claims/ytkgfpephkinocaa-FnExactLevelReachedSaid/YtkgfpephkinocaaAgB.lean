/-
  AG, part B: how a world and a frame go on fitting an abstract state while objects are made, written, frozen and dropped. Conditions: none.
-/
import Derived.Test.YtkgfpephkinocaaAgA
set_option linter.unusedSimpArgs false
set_option linter.unusedVariables false
namespace Go.AG
open Go.RowKit

/- deep immutable values, by their look -/
mutual
def V.imm : V → Bool
  | .sc _ => true
  | .sl _ _ => true
  | .ip _ _ => true
  | .fn _ caps => V.immL caps
  | .ref _ _ _ => false
  | .ptr _ _ => false
  | .agg _ => false
  | .tup _ => false
  | .junk => false
def V.immL : List V → Bool
  | [] => true
  | x :: xs => V.imm x && V.immL xs
end

theorem immL_iff (xs : List V) : V.immL xs = true ↔ ∀ i (h : i < xs.length), xs[i].imm = true := by
  induction xs with
  | nil => simp [V.immL]
  | cons x xs ih =>
    simp only [V.immL, Bool.and_eq_true, ih]
    constructor
    · rintro ⟨h1, h2⟩ i hi
      cases i with
      | zero => exact h1
      | succ i => exact h2 i (by simpa using hi)
    · intro h
      exact ⟨h 0 (by simp), fun i hi => h (i + 1) (by simpa using hi)⟩

theorem immL_append (xs ys : List V) : V.immL (xs ++ ys) = (V.immL xs && V.immL ys) := by
  induction xs with
  | nil => simp [V.immL]
  | cons x xs ih => simp [V.immL, ih, Bool.and_assoc]

theorem RepC.toD {w : World} {Y : Nat → Prop} {ρ : Nat → Pl} {ob : Objs} {v : Value} {x : V} (h : RepC w Y ρ ob v x) (hi : x.imm = true) : RepD w Y v x := by
  induction h with
  | d h => exact h
  | @fn f cs caps hs hr ih =>
    simp only [V.imm, immL_iff] at hi
    exact .fn hs fun i h => ih i h (hi i h)
  | _ => simp [V.imm] at hi

/- references to the objects that f tells become what they hold -/
mutual
def V.frz (f : Nat → Option Ob) : V → V
  | .ref l off len => match f l with
    | some o => .sl len ((o.cells.drop off).take (len * o.esz))
    | none => .ref l off len
  | .ptr l off => match f l with
    | some o => .ip o.cells off
    | none => .ptr l off
  | .fn g caps => .fn g (V.frzL f caps)
  | .agg xs => .agg (V.frzL f xs)
  | .tup xs => .tup (V.frzL f xs)
  | .sc v => .sc v
  | .sl len xs => .sl len xs
  | .ip xs off => .ip xs off
  | .junk => .junk
def V.frzL (f : Nat → Option Ob) : List V → List V
  | [] => []
  | x :: xs => V.frz f x :: V.frzL f xs
end

theorem frzL_eq (f : Nat → Option Ob) (xs : List V) : V.frzL f xs = xs.map (V.frz f) := by
  induction xs with
  | nil => simp [V.frzL]
  | cons x xs ih => simp [V.frzL, ih]

theorem RepD.frz {w : World} {X : Nat → Prop} {v : Value} {x : V} (h : RepD w X v x) (f : Nat → Option Ob) : x.frz f = x := by
  induction h with
  | sc v => rfl
  | nil => rfl
  | sl0 => rfl
  | sl => rfl
  | ip => rfl
  | @fn g cs caps hs hr ih =>
    simp only [V.frz, frzL_eq]
    congr 1
    apply List.ext_getElem (by simp)
    intro i h1 h2
    simp only [List.getElem_map]
    exact ih i h2

/-- the cells of an object, read from outside -/
theorem ObOk.cellsD {w : World} {Y X' : Nat → Prop} {ρ : Nat → Pl} {ob : Objs} {p : Pl} {o : Ob} (h : ObOk w Y ρ ob p o) (hi : V.immL o.cells = true)
    (hX : ∀ b, b < w.heap.size → X' b → Y b) :
    ∃ cs : Nat → Value, ∀ i (h : i < o.cells.length), w.cell? ⟨p.blk, p.base + i, none⟩ = some (cs i) ∧ RepD w X' (cs i) o.cells[i] := by
  refine ⟨fun i => (w.cell? ⟨p.blk, p.base + i, none⟩).getD undef, fun i hi' => ?_⟩
  obtain ⟨c, h1, h2, _⟩ := h.cell i hi'
  simp only [h1, Option.getD_some, true_and]
  exact (h2.toD ((immL_iff _).1 hi i hi')).mono (fun _ _ _ h => h) hX

theorem RepC.frz {w : World} {Y X' : Nat → Prop} {ρ ρ' : Nat → Pl} {ob ob' : Objs} {v : Value} {x : V} (h : RepC w Y ρ ob v x) (f : Nat → Option Ob)
    (hf : ∀ l o, f l = some o → Live ob l o ∧ V.immL o.cells = true ∧ ObOk w Y ρ ob (ρ l) o)
    (hX : ∀ b, b < w.heap.size → X' b → Y b) (hX2 : ∀ l o, f l = some o → ¬ X' (ρ l).blk)
    (hob : ∀ l o, Live ob l o → f l = none → ∃ o', Live ob' l o' ∧ o'.esz = o.esz ∧ ρ' l = ρ l) : RepC w X' ρ' ob' v (x.frz f) := by
  induction h with
  | d h => rw [h.frz]; exact .d (h.mono (fun _ _ _ h => h) hX)
  | @ref l off len cap o ho hl hc hs =>
    simp only [V.frz]
    cases hfl : f l with
    | some o' =>
      obtain ⟨h1, h2, h3⟩ := hf l o' hfl
      have e : o' = o := by unfold Live at h1 ho; rw [h1] at ho; cases ho; rfl
      subst e
      obtain ⟨cs, hcs⟩ := h3.cellsD h2 hX
      refine .d (.sl (fun i => cs (off + i)) (fun i hi => ?_) (fun i hi => ?_) (fun _ => hX2 l o' hfl) hl)
      · have hi' : off + i < o'.cells.length := by simp at hi; omega
        have := (hcs _ hi').1
        rwa [show (ρ l).base + off + i = (ρ l).base + (off + i) from by omega]
      · have hi' : off + i < o'.cells.length := by simp at hi; omega
        simpa using (hcs _ hi').2
    | none =>
      obtain ⟨o', h1, h2, h3⟩ := hob l o ho hfl
      simp only
      rw [← h3]
      exact .ref h1 hl hc (by rw [h3, h2]; exact hs)
  | @ref0 l off o p' ho =>
    simp only [V.frz]
    cases hfl : f l with
    | some o' =>
      simp only [Nat.zero_mul, List.take_zero]
      exact .d (.sl (fun _ => undef) (fun i hi => absurd hi (by simp)) (fun i hi => absurd hi (by simp)) (fun h => absurd rfl h) (Nat.le_refl _))
    | none =>
      obtain ⟨o', h1, h2, h3⟩ := hob l o ho hfl
      simp only
      rw [← h3]
      exact .ref0 h1
  | @ptr l off o ho =>
    simp only [V.frz]
    cases hfl : f l with
    | some o' =>
      obtain ⟨h1, h2, h3⟩ := hf l o' hfl
      obtain ⟨cs, hcs⟩ := h3.cellsD h2 hX
      exact .d (.ip cs (fun i hi => (hcs i hi).1) (fun i hi => (hcs i hi).2) (fun _ => hX2 l o' hfl))
    | none =>
      obtain ⟨o', h1, h2, h3⟩ := hob l o ho hfl
      simp only
      rw [← h3]
      exact .ptr h1
  | @fn g cs caps hs hr ih =>
    simp only [V.frz, frzL_eq]
    exact .fn (by simpa using hs) (fun i hi => by simpa using ih i (by simpa using hi))
  | @agg cs xs hs hr ih =>
    simp only [V.frz, frzL_eq]
    exact .agg (by simpa using hs) (fun i hi => by simpa using ih i (by simpa using hi))
  | @tup cs xs hs hr ih =>
    simp only [V.frz, frzL_eq]
    exact .tup (by simpa using hs) (fun i hi => by simpa using ih i (by simpa using hi))
  | junk => exact .junk

/-- a map over all that a state holds -/
def trO (τ : V → V) (ob : Objs) : Objs := ob.map fun x => x.map fun o => ⟨o.esz, o.cells.map τ⟩
def trS (τ : V → V) (sl : List (Nat × V)) : List (Nat × V) := sl.map fun q => (q.1, τ q.2)

theorem lk_tr (τ : V → V) (hτ : τ .junk = .junk) (t : Nat) (sl : List (Nat × V)) : lk t (trS τ sl) = τ (lk t sl) := by
  induction sl with
  | nil => simp [trS, lk, hτ]
  | cons q r ih =>
    simp only [trS, List.map_cons, lk] at ih ⊢
    cases Nat.beq q.1 t <;> simp [ih]

theorem live_trO {τ : V → V} {ob : Objs} {l : Nat} {o' : Ob} : Live (trO τ ob) l o' ↔ ∃ o, Live ob l o ∧ o' = ⟨o.esz, o.cells.map τ⟩ := by
  unfold Live trO
  rw [List.getElem?_map]
  cases h : ob[l]? with
  | none => simp
  | some x =>
    cases x with
    | none => simp
    | some o => simp; exact eq_comm

/-- the general step of the heap: τ is what becomes of each value -/
theorem HOk.step {F : Fr} {w w' : World} {ρ ρ' : Nat → Pl} {ob ob' : Objs} (h : HOk F w ρ ob) (τ : V → V)
    (hos : w'.os = w.os) (htape : w'.tape = w.tape) (hout : w'.output = w.output) (hsize : w.heap.size ≤ w'.heap.size)
    (hframe : ∀ b, b < F.W.heap.size → ¬ F.io b → w'.heap[b]? = w.heap[b]?)
    (hτ : ∀ v x, RepC w (F.Y ρ ob) ρ ob v x → RepC w' (F.Y ρ' ob') ρ' ob' v (τ x))
    (hob : ∀ l o', Live ob' l o' →
      (∃ o, Live ob l o ∧ o' = ⟨o.esz, o.cells.map τ⟩ ∧ ρ' l = ρ l ∧ w'.heap[(ρ l).blk]? = w.heap[(ρ l).blk]?) ∨
      (ObOk w' (F.Y ρ' ob') ρ' ob' (ρ' l) o' ∧ ((F.io (ρ' l).blk ∧ l < F.k) ∨ F.W.heap.size ≤ (ρ' l).blk) ∧ (l < F.k → ρ' l = F.ρ0 l)))
    (hinj : ∀ l l' o o', Live ob' l o → Live ob' l' o' → (ρ' l).blk = (ρ' l').blk → l = l') : HOk F w' ρ' ob' where
  os := hos.trans h.os
  tape := htape.trans h.tape
  output := hout.trans h.output
  size := Nat.le_trans h.size hsize
  frame := fun b hb hio => (hframe b hb hio).trans (h.frame b hb hio)
  xlt := h.xlt
  obj := fun l o' ho' => by
    rcases hob l o' ho' with ⟨o, ho, rfl, hρ, hb⟩ | ⟨h1, _⟩
    · rw [hρ]
      obtain ⟨⟨cur, e, hr, hs⟩, hf, hc⟩ := h.obj l o ho
      refine ⟨⟨cur, e, hb.trans hr, hs⟩, by simpa using hf, fun i hi => ?_⟩
      obtain ⟨c, h1, h2, h3⟩ := hc i (by simpa using hi)
      refine ⟨c, ?_, by simpa using hτ _ _ h2, h3⟩
      rw [← h1]
      exact World.cell?_of_block hb
    · exact h1
  fresh := fun l o' ho' => by
    rcases hob l o' ho' with ⟨o, ho, rfl, hρ, hb⟩ | ⟨_, h1, _⟩
    · rw [hρ]; exact h.fresh l o ho
    · exact h1
  inj := hinj
  stay := fun l o' hk ho' => by
    rcases hob l o' ho' with ⟨o, ho, rfl, hρ, hb⟩ | ⟨_, _, h1⟩
    · rw [hρ]; exact h.stay l o hk ho
    · exact h1 hk

theorem HOk.blk_lt {F : Fr} {w : World} {ρ : Nat → Pl} {ob : Objs} (h : HOk F w ρ ob) {l : Nat} {o : Ob} (ho : Live ob l o) : (ρ l).blk < w.heap.size := by
  obtain ⟨⟨cur, e, hr, hs⟩, _, _⟩ := h.obj l o ho
  rcases Nat.lt_or_ge (ρ l).blk w.heap.size with h' | h'
  · exact h'
  · simp [Array.getElem?_eq_none h'] at hr

theorem HOk.notX {F : Fr} {w : World} {ρ : Nat → Pl} {ob : Objs} (h : HOk F w ρ ob) {l : Nat} {o : Ob} (ho : Live ob l o) : ¬ F.X (ρ l).blk := by
  intro hx
  obtain ⟨h1, h2⟩ := h.xlt _ hx
  rcases h.fresh l o ho with ⟨h3, _⟩ | h3
  · exact h2 h3
  · omega

theorem Sat.of_heap {F : Fr} {s : AState} {ρ ρ' : Nat → Pl} {a : Act} {w w' : World} {ob' : Objs} (h : Sat F s ρ a w) (τ : V → V) (hj : τ .junk = .junk) (hk : HOk F w' ρ' ob') (hkl : F.k ≤ ob'.length)
    (hτ : ∀ v x, RepC w (F.Y ρ s.ob) ρ s.ob v x → RepC w' (F.Y ρ' ob') ρ' ob' v (τ x)) : Sat F { s with sl := trS τ s.sl, ob := ob' } ρ' a w' where
  heap := hk
  dfs := h.dfs
  size := h.size
  k := h.k
  kle := hkl
  slot := fun t => by
    show RepC w' _ ρ' ob' _ (lk t (trS τ s.sl))
    rw [lk_tr τ hj]
    exact hτ _ _ (h.slot t)

theorem trS_id (sl : List (Nat × V)) : trS id sl = sl := by
  simp [trS]

theorem Sat.of_heap_id {F : Fr} {s : AState} {ρ ρ' : Nat → Pl} {a : Act} {w w' : World} {ob' : Objs} (h : Sat F s ρ a w) (hk : HOk F w' ρ' ob') (hkl : F.k ≤ ob'.length)
    (hτ : ∀ v x, RepC w (F.Y ρ s.ob) ρ s.ob v x → RepC w' (F.Y ρ' ob') ρ' ob' v x) : Sat F { s with ob := ob' } ρ' a w' := by
  have := h.of_heap id rfl hk hkl hτ
  rw [trS_id] at this
  exact this

/-! ### a new object -/

def plNew (ρ : Nat → Pl) (l : Nat) (p : Pl) : Nat → Pl := fun i => if i = l then p else ρ i

theorem plNew_same (ρ : Nat → Pl) (l : Nat) (p : Pl) : plNew ρ l p l = p := by simp [plNew]
theorem plNew_other (ρ : Nat → Pl) (l : Nat) (p : Pl) {i : Nat} (h : i ≠ l) : plNew ρ l p i = ρ i := by simp [plNew, h]

theorem live_snoc {ob : Objs} {o : Option Ob} {l : Nat} {o' : Ob} : Live (ob ++ [o]) l o' ↔ (Live ob l o' ∨ (l = ob.length ∧ o = some o')) := by
  unfold Live
  rw [List.getElem?_append]
  split
  · rename_i h
    constructor
    · exact .inl
    · rintro (h' | ⟨h', _⟩)
      · exact h'
      · omega
  · rename_i h
    constructor
    · intro h'
      have : l - ob.length = 0 := by
        rcases Nat.eq_zero_or_pos (l - ob.length) with h0 | h0
        · exact h0
        · rw [List.getElem?_eq_none (by simp; omega)] at h'; cases h'
      rw [this] at h'
      simp at h'
      exact .inr ⟨by omega, h'⟩
    · rintro (h' | ⟨h', e⟩)
      · rw [List.getElem?_eq_none (by omega)] at h'; cases h'
      · subst h' e; simp

theorem live_lt {ob : Objs} {l : Nat} {o : Ob} (h : Live ob l o) : l < ob.length := by
  unfold Live at h
  exact (List.getElem?_eq_some_iff.1 h).1

theorem HOk.alloc {F : Fr} {w : World} {ρ : Nat → Pl} {ob : Objs} (h : HOk F w ρ ob) (hk : F.k ≤ ob.length) (cur : Array Value) (e : TypeId) (o : Ob) (hfit : o.cells.length ≤ cur.size)
    (hrep : ∀ i (h : i < o.cells.length), RepC w (F.Y ρ ob) ρ ob (cur.getD i undef) o.cells[i] ∧ (cur.getD i undef).oneCell' = true) :
    HOk F (w.alloc (.cells cur e)) (plNew ρ ob.length ⟨w.heap.size, 0, cur.size⟩) (ob ++ [some o]) ∧
    (∀ v x, RepC w (F.Y ρ ob) ρ ob v x → RepC (w.alloc (.cells cur e)) (F.Y (plNew ρ ob.length ⟨w.heap.size, 0, cur.size⟩) (ob ++ [some o])) (plNew ρ ob.length ⟨w.heap.size, 0, cur.size⟩) (ob ++ [some o]) v x) := by
  have hne : ∀ {l o'}, Live ob l o' → l ≠ ob.length := fun h e => by have := live_lt h; omega
  have hτ : ∀ v x, RepC w (F.Y ρ ob) ρ ob v x → RepC (w.alloc (.cells cur e)) (F.Y (plNew ρ ob.length ⟨w.heap.size, 0, cur.size⟩) (ob ++ [some o])) (plNew ρ ob.length ⟨w.heap.size, 0, cur.size⟩) (ob ++ [some o]) v x := by
    intro v x hr
    refine hr.mono' (fun a c _ hc => ?_) (fun b hb => ?_) (fun l o' ho => ⟨o', live_snoc.2 (.inl ho), rfl, plNew_other _ _ _ (hne ho)⟩)
    · rw [World.cell?_alloc_lt _ _ _ (World.block_lt_of_cell? w a hc)]; exact hc
    · rintro (hx | ⟨l, o', ho, he⟩)
      · exact .inl hx
      · rcases live_snoc.1 ho with ho | ⟨e1, _⟩
        · rw [plNew_other _ _ _ (hne ho)] at he; exact .inr ⟨l, o', ho, he⟩
        · subst e1; rw [plNew_same] at he; simp at he; omega
  refine ⟨h.step id rfl rfl rfl (by simp) (fun b hb _ => Below.heap_alloc _ _ _ (Nat.lt_of_lt_of_le hb h.size)) hτ (fun l o' ho => ?_) (fun l l' o1 o2 h1 h2 he => ?_), hτ⟩
  · rcases live_snoc.1 ho with ho | ⟨rfl, e2⟩
    · refine .inl ⟨o', ho, by simp, plNew_other _ _ _ (hne ho), Below.heap_alloc _ _ _ (h.blk_lt ho)⟩
    · cases e2
      rw [plNew_same]
      refine .inr ⟨⟨⟨cur, e, heap_alloc_new w _, rfl⟩, by simpa using hfit, fun i hi => ?_⟩, .inr h.size, fun hl => by omega⟩
      obtain ⟨h1, h2⟩ := hrep i hi
      refine ⟨cur.getD i undef, ?_, hτ _ _ h1, h2⟩
      have : i < cur.size := by omega
      simp [Array.getD, this]
  · rcases live_snoc.1 h1 with h1 | ⟨rfl, _⟩ <;> rcases live_snoc.1 h2 with h2 | ⟨rfl, _⟩
    · rw [plNew_other _ _ _ (hne h1), plNew_other _ _ _ (hne h2)] at he
      exact h.inj l l' o1 o2 h1 h2 he
    · rw [plNew_other _ _ _ (hne h1), plNew_same] at he
      have := h.blk_lt h1
      simp at he; omega
    · rw [plNew_other _ _ _ (hne h2), plNew_same] at he
      have := h.blk_lt h2
      simp at he; omega
    · rfl

end Go.AG

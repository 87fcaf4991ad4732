/-
  AG, merged parts A B C D. Conditions: none.
-/
import Derived.Laws.AppendOwn
import Derived.Laws.OwnMore
import Derived.Laws.MakeOwn
import Derived.Laws.NewBlocks
import Derived.Deep.Quiet
import Derived.Below
import Derived.Laws.Entries
import Derived.Laws.Slices
import Derived.Laws.Strings
import Derived.Laws.Cover1
import Derived.Laws.Cells
import Derived.Laws.Tables
import Derived.Laws.StructEq
import Derived.Laws.BytesArg
/-
  AG, part A: abstract values, abstract states, and what it means that a world and a frame fit an abstract state; no program in sight. Conditions: none.
-/
namespace Go.AG

/-- abstract values -/
inductive V where
  | sc (v : Value)
  | sl (len : Nat) (xs : List V)
  | ip (xs : List V) (off : Nat)
  | fn (f : FuncId) (caps : List V)
  | ref (l off len : Nat)
  | ptr (l off : Nat)
  | agg (xs : List V)
  | tup (xs : List V)
  | mp (l : Nat)
  | ifc (t : TypeId) (x : V)
  | junk
  deriving Inhabited

structure Ob where
  esz : Nat
  cells : List V

/-- the mark of a map, in the place of an element's size -/
def mapSz : Nat := 4294967291

abbrev Objs := List (Option Ob)

/-- the place of an owned object -/
structure Pl where
  blk : Nat
  base : Nat
  size : Nat

def Live (ob : Objs) (l : Nat) (o : Ob) : Prop := ob[l]? = some (some o)

def ownB (ρ : Nat → Pl) (ob : Objs) (b : Nat) : Prop := ∃ l o, Live ob l o ∧ (ρ l).blk = b

inductive RepD (w : World) (X : Nat → Prop) : Value → V → Prop
  | sc (v : Value) : RepD w X v (.sc v)
  | nil : RepD w X (.slice none 0 0) (.sl 0 [])
  | sl0 (a : Addr) : RepD w X (.slice (some a) 0 0) (.sl 0 [])
  | sl {b o len cap : Nat} {xs : List V} (cs : Nat → Value) (hc : ∀ i, i < xs.length → w.cell? ⟨b, o + i, none⟩ = some (cs i))
      (hr : ∀ i (h : i < xs.length), RepD w X (cs i) xs[i]) (hx : xs ≠ [] → ¬ X b) (hl : len ≤ cap) : RepD w X (.slice (some ⟨b, o, none⟩) len cap) (.sl len xs)
  | ip {b o off : Nat} {xs : List V} (cs : Nat → Value) (hc : ∀ i, i < xs.length → w.cell? ⟨b, o + i, none⟩ = some (cs i))
      (hr : ∀ i (h : i < xs.length), RepD w X (cs i) xs[i]) (hx : xs ≠ [] → ¬ X b) : RepD w X (.pointer (some ⟨b, o + off, none⟩)) (.ip xs off)
  | fn {f : FuncId} {cs : Array Value} {caps : List V} (hs : cs.size = caps.length) (hr : ∀ i (h : i < caps.length), RepD w X (cs.getD i undef) caps[i]) :
      RepD w X (.func (.func f) #[] cs) (.fn f caps)

inductive RepC (w : World) (Y : Nat → Prop) (ρ : Nat → Pl) (ob : Objs) : Value → V → Prop
  | d {v : Value} {x : V} (h : RepD w Y v x) : RepC w Y ρ ob v x
  | ref {l off len cap : Nat} {o : Ob} (ho : Live ob l o) (hm : o.esz ≠ mapSz) (hl : len ≤ cap) (hc : cap ≤ maxLen) (hs : (ρ l).base + off + cap * o.esz ≤ (ρ l).size) :
      RepC w Y ρ ob (.slice (some ⟨(ρ l).blk, (ρ l).base + off, none⟩) len cap) (.ref l off len)
  | ref0 {l off : Nat} {o : Ob} {p : Nat} (ho : Live ob l o) (hm : o.esz ≠ mapSz) : RepC w Y ρ ob (.slice (some ⟨(ρ l).blk, p, none⟩) 0 0) (.ref l off 0)
  | ptr {l off : Nat} {o : Ob} (ho : Live ob l o) (hm : o.esz ≠ mapSz) : RepC w Y ρ ob (.pointer (some ⟨(ρ l).blk, (ρ l).base + off, none⟩)) (.ptr l off)
  | fn {f : FuncId} {cs : Array Value} {caps : List V} (hs : cs.size = caps.length) (hr : ∀ i (h : i < caps.length), RepC w Y ρ ob (cs.getD i undef) caps[i]) :
      RepC w Y ρ ob (.func (.func f) #[] cs) (.fn f caps)
  | agg {cs : Array Value} {xs : List V} (hs : cs.size = xs.length) (hr : ∀ i (h : i < xs.length), RepC w Y ρ ob (cs.getD i undef) xs[i]) :
      RepC w Y ρ ob (.agg cs) (.agg xs)
  | tup {cs : Array Value} {xs : List V} (hs : cs.size = xs.length) (hr : ∀ i (h : i < xs.length), RepC w Y ρ ob (cs.getD i undef) xs[i]) :
      RepC w Y ρ ob (.tuple cs) (.tup xs)
  | mp {l : Nat} {o : Ob} (ho : Live ob l o) (hm : o.esz = mapSz) : RepC w Y ρ ob (.map (some (ρ l).blk)) (.mp l)
  | ifc {t : TypeId} {v : Value} {x : V} (h : RepC w Y ρ ob v x) : RepC w Y ρ ob (.iface t v) (.ifc t x)
  | junk {v : Value} : RepC w Y ρ ob v .junk

theorem RepD.mono {w w' : World} {X X' : Nat → Prop} {v : Value} {x : V} (h : RepD w X v x)
    (hc : ∀ a c, ¬ X a.block → w.cell? a = some c → w'.cell? a = some c) (hX : ∀ b, b < w.heap.size → X' b → X b) : RepD w' X' v x := by
  induction h with
  | sc v => exact .sc v
  | nil => exact .nil
  | sl0 a => exact .sl0 a
  | @sl b o len cap xs cs h1 hr hx hl ih =>
    refine .sl cs (fun i hi => ?_) ih (fun hne hb => ?_) hl
    · exact hc _ _ (hx (fun e => by simp [e] at hi)) (h1 i hi)
    · have hp : 0 < xs.length := List.length_pos_iff.2 hne
      have := World.block_lt_of_cell? w _ (h1 0 hp)
      exact hx hne (hX _ this hb)
  | @ip b o off xs cs h1 hr hx ih =>
    refine .ip cs (fun i hi => ?_) ih (fun hne hb => ?_)
    · exact hc _ _ (hx (fun e => by simp [e] at hi)) (h1 i hi)
    · have hp : 0 < xs.length := List.length_pos_iff.2 hne
      have := World.block_lt_of_cell? w _ (h1 0 hp)
      exact hx hne (hX _ this hb)
  | fn hs _ ih => exact .fn hs ih

/- objects that go: what pointed to them is junk -/
mutual
def V.kill (p : Nat → Bool) : V → V
  | .ref l off len => bif p l then .junk else .ref l off len
  | .ptr l off => bif p l then .junk else .ptr l off
  | .fn f caps => .fn f (V.killL p caps)
  | .agg xs => .agg (V.killL p xs)
  | .tup xs => .tup (V.killL p xs)
  | .mp l => bif p l then .junk else .mp l
  | .ifc t x => .ifc t (V.kill p x)
  | .sc v => .sc v
  | .sl len xs => .sl len xs
  | .ip xs off => .ip xs off
  | .junk => .junk
def V.killL (p : Nat → Bool) : List V → List V
  | [] => []
  | x :: xs => V.kill p x :: V.killL p xs
end

theorem killL_eq (p : Nat → Bool) (xs : List V) : V.killL p xs = xs.map (V.kill p) := by
  induction xs with
  | nil => simp [V.killL]
  | cons x xs ih => simp [V.killL, ih]

/-- a deep immutable value does not feel a kill -/
theorem RepD.kill {w : World} {X : Nat → Prop} {v : Value} {x : V} (h : RepD w X v x) (p : Nat → Bool) : x.kill p = x := by
  induction h with
  | sc v => rfl
  | nil => rfl
  | sl0 => rfl
  | sl => rfl
  | ip => rfl
  | @fn f cs caps hs hr ih =>
    simp only [V.kill, killL_eq]
    congr 1
    apply List.ext_getElem (by simp)
    intro i h1 h2
    simp only [List.getElem_map]
    exact ih i h2

theorem RepC.mono {w w' : World} {Y Y' : Nat → Prop} {ρ ρ' : Nat → Pl} {ob ob' : Objs} {v : Value} {x : V} (h : RepC w Y ρ ob v x)
    (hc : ∀ a c, ¬ Y a.block → w.cell? a = some c → w'.cell? a = some c) (hY : ∀ b, b < w.heap.size → Y' b → Y b) (p : Nat → Bool)
    (hob : ∀ l o, p l = false → Live ob l o → ∃ o', Live ob' l o' ∧ o'.esz = o.esz ∧ ρ' l = ρ l) : RepC w' Y' ρ' ob' v (x.kill p) := by
  induction h with
  | d h => rw [h.kill]; exact .d (h.mono hc hY)
  | @ref l off len cap o ho hm hl hc hs =>
    cases hp : p l with
    | true => simp only [V.kill, hp, cond_true]; exact .junk
    | false =>
      simp only [V.kill, hp, cond_false]
      obtain ⟨o', h1, h2, h3⟩ := hob l o hp ho
      rw [← h3]
      exact .ref h1 (by rw [h2]; exact hm) hl hc (by rw [h3, h2]; exact hs)
  | @ref0 l off o p' ho hm =>
    cases hp : p l with
    | true => simp only [V.kill, hp, cond_true]; exact .junk
    | false =>
      simp only [V.kill, hp, cond_false]
      obtain ⟨o', h1, h2, h3⟩ := hob l o hp ho
      rw [← h3]
      exact .ref0 h1 (by rw [h2]; exact hm)
  | @ptr l off o ho hm =>
    cases hp : p l with
    | true => simp only [V.kill, hp, cond_true]; exact .junk
    | false =>
      simp only [V.kill, hp, cond_false]
      obtain ⟨o', h1, h2, h3⟩ := hob l o hp ho
      rw [← h3]
      exact .ptr h1 (by rw [h2]; exact hm)
  | @mp l o ho hm =>
    cases hp : p l with
    | true => simp only [V.kill, hp, cond_true]; exact .junk
    | false =>
      simp only [V.kill, hp, cond_false]
      obtain ⟨o', h1, h2, h3⟩ := hob l o hp ho
      rw [← h3]
      exact .mp h1 (h2.trans hm)
  | ifc h ih => exact .ifc ih
  | @fn f cs caps hs hr ih =>
    simp only [V.kill, killL_eq]
    exact .fn (by simpa using hs) (fun i hi => by simpa using ih i (by simpa using hi))
  | @agg cs xs hs hr ih =>
    simp only [V.kill, killL_eq]
    exact .agg (by simpa using hs) (fun i hi => by simpa using ih i (by simpa using hi))
  | @tup cs xs hs hr ih =>
    simp only [V.kill, killL_eq]
    exact .tup (by simpa using hs) (fun i hi => by simpa using ih i (by simpa using hi))
  | junk => exact .junk

theorem RepC.mono' {w w' : World} {Y Y' : Nat → Prop} {ρ ρ' : Nat → Pl} {ob ob' : Objs} {v : Value} {x : V} (h : RepC w Y ρ ob v x)
    (hc : ∀ a c, ¬ Y a.block → w.cell? a = some c → w'.cell? a = some c) (hY : ∀ b, b < w.heap.size → Y' b → Y b)
    (hob : ∀ l o, Live ob l o → ∃ o', Live ob' l o' ∧ o'.esz = o.esz ∧ ρ' l = ρ l) : RepC w' Y' ρ' ob' v x := by
  induction h with
  | d h => exact .d (h.mono hc hY)
  | @ref l off len cap o ho hm hl hc hs =>
    obtain ⟨o', h1, h2, h3⟩ := hob l o ho
    rw [← h3]
    exact .ref h1 (by rw [h2]; exact hm) hl hc (by rw [h3, h2]; exact hs)
  | @ref0 l off o p' ho hm =>
    obtain ⟨o', h1, h2, h3⟩ := hob l o ho
    rw [← h3]
    exact .ref0 h1 (by rw [h2]; exact hm)
  | @ptr l off o ho hm =>
    obtain ⟨o', h1, h2, h3⟩ := hob l o ho
    rw [← h3]
    exact .ptr h1 (by rw [h2]; exact hm)
  | @mp l o ho hm =>
    obtain ⟨o', h1, h2, h3⟩ := hob l o ho
    rw [← h3]
    exact .mp h1 (h2.trans hm)
  | ifc h ih => exact .ifc ih
  | fn hs hr ih => exact .fn hs ih
  | agg hs hr ih => exact .agg hs ih
  | tup hs hr ih => exact .tup hs ih
  | junk => exact .junk

/-- what is given to a function -/
structure Fr where
  W : World
  X : Nat → Prop
  io : Nat → Prop
  k : Nat
  ρ0 : Nat → Pl

def Fr.Y (F : Fr) (ρ : Nat → Pl) (ob : Objs) (b : Nat) : Prop := F.X b ∨ ownB ρ ob b

/-- a map's entries, as cells behind a mark -/
def mpCells (es : Array MapEntry) : List V := .junk :: es.toList.flatMap fun e => [V.sc e.key, V.sc e.val]

structure CellsOk (w : World) (Y : Nat → Prop) (ρ : Nat → Pl) (ob : Objs) (p : Pl) (o : Ob) : Prop where
  row : ∃ cur e, w.heap[p.blk]? = some (.cells cur e (0, 0)) ∧ cur.size = p.size
  fit : p.base + o.cells.length ≤ p.size
  cell : ∀ i (h : i < o.cells.length), ∃ c, w.cell? ⟨p.blk, p.base + i, none⟩ = some c ∧ RepC w Y ρ ob c o.cells[i] ∧ c.oneCell' = true

/-- an object: a row of cells, or a map -/
structure ObOk (w : World) (Y : Nat → Prop) (ρ : Nat → Pl) (ob : Objs) (p : Pl) (o : Ob) : Prop where
  cells : o.esz ≠ mapSz → CellsOk w Y ρ ob p o
  map : o.esz = mapSz → ∃ es clock, w.heap[p.blk]? = some (.map es clock) ∧ o.cells = mpCells es

theorem mpCells_map (τ : V → V) (hj : τ .junk = .junk) (hs : ∀ v, τ (.sc v) = .sc v) (es : Array MapEntry) : (mpCells es).map τ = mpCells es := by
  unfold mpCells
  rw [List.map_cons, hj]
  congr 1
  induction es.toList with
  | nil => rfl
  | cons e r ih => simp [hs, ih]
theorem CellsOk.ob {w : World} {Y : Nat → Prop} {ρ : Nat → Pl} {ob : Objs} {p : Pl} {o : Ob} (hm : o.esz ≠ mapSz) (h : CellsOk w Y ρ ob p o) : ObOk w Y ρ ob p o := ⟨fun _ => h, fun e => absurd e hm⟩
theorem CellsOk.lt {w : World} {Y : Nat → Prop} {ρ : Nat → Pl} {ob : Objs} {p : Pl} {o : Ob} (h : CellsOk w Y ρ ob p o) : p.blk < w.heap.size := by
  obtain ⟨cur, e, hr, hs⟩ := h.row
  rcases Nat.lt_or_ge p.blk w.heap.size with h' | h'
  · exact h'
  · simp [Array.getElem?_eq_none h'] at hr
theorem ObOk.lt {w : World} {Y : Nat → Prop} {ρ : Nat → Pl} {ob : Objs} {p : Pl} {o : Ob} (h : ObOk w Y ρ ob p o) : p.blk < w.heap.size := by
  by_cases hm : o.esz = mapSz
  · obtain ⟨es, clock, hr, _⟩ := h.map hm
    rcases Nat.lt_or_ge p.blk w.heap.size with h' | h'
    · exact h'
    · simp [Array.getElem?_eq_none h'] at hr
  · exact (h.cells hm).lt

structure HOk (F : Fr) (w : World) (ρ : Nat → Pl) (ob : Objs) : Prop where
  os : w.os = F.W.os
  tape : w.tape = F.W.tape
  output : w.output = F.W.output
  size : F.W.heap.size ≤ w.heap.size
  frame : ∀ b, b < F.W.heap.size → ¬ F.io b → w.heap[b]? = F.W.heap[b]?
  xlt : ∀ b, F.X b → b < F.W.heap.size ∧ ¬ F.io b
  obj : ∀ l o, Live ob l o → ObOk w (F.Y ρ ob) ρ ob (ρ l) o
  fresh : ∀ l o, Live ob l o → F.io (ρ l).blk ∨ F.W.heap.size ≤ (ρ l).blk
  inj : ∀ l l' o o', Live ob l o → Live ob l' o' → (ρ l).blk = (ρ l').blk → l = l'
  stay : ∀ l o, l < F.k → Live ob l o → ρ l = F.ρ0 l

structure AState where
  n : Nat
  k : Nat
  sl : List (Nat × V)
  ob : Objs

def lk (t : Nat) : List (Nat × V) → V
  | [] => .junk
  | p :: r => bif Nat.beq p.1 t then p.2 else lk t r

def AState.get (s : AState) (t : Nat) : V := lk t s.sl

def AState.ev (s : AState) : Operand → V
  | .tmp t => s.get t
  | .const v => .sc v
  | .func f => .fn f []
  | .global _ => .junk

def AState.put (s : AState) (d : Option Nat) (x : V) : AState :=
  match d with
  | some t => { s with sl := (t, x) :: s.sl }
  | none => s

structure Sat (F : Fr) (s : AState) (ρ : Nat → Pl) (a : Act) (w : World) : Prop where
  heap : HOk F w ρ s.ob
  dfs : a.defers = []
  size : a.tmps.size = s.n
  k : s.k = F.k
  kle : F.k ≤ s.ob.length
  slot : ∀ t, RepC w (F.Y ρ s.ob) ρ s.ob (a.tmps.getD t undef) (s.get t)

theorem Sat.ev {F : Fr} {s : AState} {ρ : Nat → Pl} {a : Act} {w : World} (h : Sat F s ρ a w) (x : Operand) : RepC w (F.Y ρ s.ob) ρ s.ob (a.eval x) (s.ev x) := by
  cases x with
  | tmp t => exact h.slot t
  | const v => exact .d (.sc v)
  | global g => exact .junk
  | func f => exact .fn rfl (fun i hi => absurd hi (by simp))

theorem get_put (s : AState) (t : Nat) (x : V) (u : Nat) : (s.put (some t) x).get u = if t = u then x else s.get u := by
  simp only [AState.put, AState.get, lk]
  by_cases h : t = u
  · subst h; simp
  · rw [if_neg h]
    have : Nat.beq t u = false := by
      cases hb : Nat.beq t u with
      | false => rfl
      | true => exact absurd (Nat.eq_of_beq_eq_true hb) h
    simp [this]

theorem Sat.put {F : Fr} {s : AState} {ρ : Nat → Pl} {a : Act} {w : World} (h : Sat F s ρ a w) {d : Option Nat} {v : Value} {x : V} (hd : ∀ t, d = some t → t < s.n)
    (hv : RepC w (F.Y ρ s.ob) ρ s.ob v x) : Sat F (s.put d x) ρ (a.put d v) w := by
  cases d with
  | none => exact h
  | some t =>
    have ht := hd t rfl
    refine ⟨h.heap, h.dfs, by simp [Act.put, AState.put, h.size], h.k, h.kle, fun u => ?_⟩
    rw [get_put]
    simp only [Act.put]
    by_cases e : t = u
    · subst e
      rw [if_pos rfl]
      have : (a.tmps.setIfInBounds t v).getD t undef = v := by
        simp [Array.getD_eq_getD_getElem?, h.size, ht]
      rw [this]
      exact hv
    · rw [if_neg e]
      have : (a.tmps.setIfInBounds t v).getD u undef = a.tmps.getD u undef := by
        simp [Array.getD_eq_getD_getElem?, e]
      rw [this]
      exact h.slot u

/-- the same state in a world that has grown -/
theorem HOk.grow {F : Fr} {w w' : World} {ρ : Nat → Pl} {ob : Objs} (h : HOk F w ρ ob) (hb : RowKit.Below w.heap.size w w') : HOk F w' ρ ob where
  os := hb.os.trans h.os
  tape := hb.tape.trans h.tape
  output := hb.output.trans h.output
  size := Nat.le_trans h.size hb.size
  frame := fun b hlt hio => (hb.block b (Nat.lt_of_lt_of_le hlt h.size)).trans (h.frame b hlt hio)
  xlt := h.xlt
  obj := fun l o ho => by
    have hO := h.obj l o ho
    have hlt : (ρ l).blk < w.heap.size := hO.lt
    refine ⟨fun hm => ?_, fun hm => (hO.map hm).elim fun es h1 => h1.elim fun clock h2 => ⟨es, clock, (hb.block _ hlt).trans h2.1, h2.2⟩⟩
    obtain ⟨⟨cur, e, hr, hs⟩, hf, hc⟩ := hO.cells hm
    refine ⟨⟨cur, e, (hb.block _ hlt).trans hr, hs⟩, hf, fun i hi => ?_⟩
    obtain ⟨c, h1, h2, h3⟩ := hc i hi
    refine ⟨c, (hb.cell (p := ⟨(ρ l).blk, (ρ l).base + i, none⟩) hlt).trans h1, ?_, h3⟩
    exact h2.mono' (fun a c _ hc => (hb.cell (World.block_lt_of_cell? w a hc)).trans hc) (fun b _ h => h) (fun l o h => ⟨o, h, rfl, rfl⟩)
  fresh := h.fresh
  inj := h.inj
  stay := h.stay

theorem RepC.grow {w w' : World} {Y : Nat → Prop} {ρ : Nat → Pl} {ob : Objs} {v : Value} {x : V} (h : RepC w Y ρ ob v x) (hb : RowKit.Below w.heap.size w w') : RepC w' Y ρ ob v x :=
  h.mono' (fun a _ _ hc => (hb.cell (World.block_lt_of_cell? w a hc)).trans hc) (fun _ _ h => h) (fun _ o h => ⟨o, h, rfl, rfl⟩)

theorem Sat.grow {F : Fr} {s : AState} {ρ : Nat → Pl} {a : Act} {w w' : World} (h : Sat F s ρ a w) (hb : RowKit.Below w.heap.size w w') : Sat F s ρ a w' :=
  ⟨h.heap.grow hb, h.dfs, h.size, h.k, h.kle, fun t => (h.slot t).grow hb⟩

end Go.AG

/-
  AG, part B: how a world and a frame go on fitting an abstract state while objects are made, written, frozen and dropped. Conditions: none.
-/
set_option linter.unusedSimpArgs false
set_option linter.unusedVariables false
namespace Go.AG
open Go.RowKit

/- deep immutable values, by their look -/
mutual
def V.imm : V → Bool
  | .sc _ => true
  | .sl _ _ => true
  | .ip _ _ => true
  | .fn _ caps => V.immL caps
  | .ref _ _ _ => false
  | .ptr _ _ => false
  | .agg _ => false
  | .tup _ => false
  | .mp _ => false
  | .ifc _ _ => false
  | .junk => false
def V.immL : List V → Bool
  | [] => true
  | x :: xs => V.imm x && V.immL xs
end

theorem immL_iff (xs : List V) : V.immL xs = true ↔ ∀ i (h : i < xs.length), xs[i].imm = true := by
  induction xs with
  | nil => simp [V.immL]
  | cons x xs ih =>
    simp only [V.immL, Bool.and_eq_true, ih]
    constructor
    · rintro ⟨h1, h2⟩ i hi
      cases i with
      | zero => exact h1
      | succ i => exact h2 i (by simpa using hi)
    · intro h
      exact ⟨h 0 (by simp), fun i hi => h (i + 1) (by simpa using hi)⟩

theorem immL_append (xs ys : List V) : V.immL (xs ++ ys) = (V.immL xs && V.immL ys) := by
  induction xs with
  | nil => simp [V.immL]
  | cons x xs ih => simp [V.immL, ih, Bool.and_assoc]

theorem RepC.toD {w : World} {Y : Nat → Prop} {ρ : Nat → Pl} {ob : Objs} {v : Value} {x : V} (h : RepC w Y ρ ob v x) (hi : x.imm = true) : RepD w Y v x := by
  induction h with
  | d h => exact h
  | @fn f cs caps hs hr ih =>
    simp only [V.imm, immL_iff] at hi
    exact .fn hs fun i h => ih i h (hi i h)
  | _ => simp [V.imm] at hi

/- references to the objects that f tells become what they hold -/
mutual
def V.frz (f : Nat → Option Ob) : V → V
  | .ref l off len => match f l with
    | some o => .sl len ((o.cells.drop off).take (len * o.esz))
    | none => .ref l off len
  | .ptr l off => match f l with
    | some o => .ip o.cells off
    | none => .ptr l off
  | .fn g caps => .fn g (V.frzL f caps)
  | .agg xs => .agg (V.frzL f xs)
  | .tup xs => .tup (V.frzL f xs)
  | .mp l => .mp l
  | .ifc t x => .ifc t (V.frz f x)
  | .sc v => .sc v
  | .sl len xs => .sl len xs
  | .ip xs off => .ip xs off
  | .junk => .junk
def V.frzL (f : Nat → Option Ob) : List V → List V
  | [] => []
  | x :: xs => V.frz f x :: V.frzL f xs
end

theorem frzL_eq (f : Nat → Option Ob) (xs : List V) : V.frzL f xs = xs.map (V.frz f) := by
  induction xs with
  | nil => simp [V.frzL]
  | cons x xs ih => simp [V.frzL, ih]

theorem RepD.frz {w : World} {X : Nat → Prop} {v : Value} {x : V} (h : RepD w X v x) (f : Nat → Option Ob) : x.frz f = x := by
  induction h with
  | sc v => rfl
  | nil => rfl
  | sl0 => rfl
  | sl => rfl
  | ip => rfl
  | @fn g cs caps hs hr ih =>
    simp only [V.frz, frzL_eq]
    congr 1
    apply List.ext_getElem (by simp)
    intro i h1 h2
    simp only [List.getElem_map]
    exact ih i h2

/-- the cells of an object, read from outside -/
theorem ObOk.notImm {w : World} {Y : Nat → Prop} {ρ : Nat → Pl} {ob : Objs} {p : Pl} {o : Ob} (h : ObOk w Y ρ ob p o) (hi : V.immL o.cells = true) : o.esz ≠ mapSz := by
  intro hm
  obtain ⟨es, clock, _, hc⟩ := h.map hm
  rw [hc] at hi
  simp [mpCells, V.immL, V.imm] at hi
theorem ObOk.cellsD {w : World} {Y X' : Nat → Prop} {ρ : Nat → Pl} {ob : Objs} {p : Pl} {o : Ob} (h : ObOk w Y ρ ob p o) (hi : V.immL o.cells = true)
    (hX : ∀ b, b < w.heap.size → X' b → Y b) :
    ∃ cs : Nat → Value, ∀ i (h : i < o.cells.length), w.cell? ⟨p.blk, p.base + i, none⟩ = some (cs i) ∧ RepD w X' (cs i) o.cells[i] := by
  refine ⟨fun i => (w.cell? ⟨p.blk, p.base + i, none⟩).getD undef, fun i hi' => ?_⟩
  obtain ⟨c, h1, h2, _⟩ := (h.cells (h.notImm hi)).cell i hi'
  simp only [h1, Option.getD_some, true_and]
  exact (h2.toD ((immL_iff _).1 hi i hi')).mono (fun _ _ _ h => h) hX

theorem RepC.frz {w : World} {Y X' : Nat → Prop} {ρ ρ' : Nat → Pl} {ob ob' : Objs} {v : Value} {x : V} (h : RepC w Y ρ ob v x) (f : Nat → Option Ob)
    (hf : ∀ l o, f l = some o → Live ob l o ∧ V.immL o.cells = true ∧ ObOk w Y ρ ob (ρ l) o)
    (hX : ∀ b, b < w.heap.size → X' b → Y b) (hX2 : ∀ l o, f l = some o → ¬ X' (ρ l).blk)
    (hob : ∀ l o, Live ob l o → f l = none → ∃ o', Live ob' l o' ∧ o'.esz = o.esz ∧ ρ' l = ρ l) : RepC w X' ρ' ob' v (x.frz f) := by
  induction h with
  | d h => rw [h.frz]; exact .d (h.mono (fun _ _ _ h => h) hX)
  | @ref l off len cap o ho hm hl hc hs =>
    simp only [V.frz]
    cases hfl : f l with
    | some o' =>
      obtain ⟨h1, h2, h3⟩ := hf l o' hfl
      have e : o' = o := by unfold Live at h1 ho; rw [h1] at ho; cases ho; rfl
      subst e
      obtain ⟨cs, hcs⟩ := h3.cellsD h2 hX
      refine .d (.sl (fun i => cs (off + i)) (fun i hi => ?_) (fun i hi => ?_) (fun _ => hX2 l o' hfl) hl)
      · have hi' : off + i < o'.cells.length := by simp at hi; omega
        have := (hcs _ hi').1
        rwa [show (ρ l).base + off + i = (ρ l).base + (off + i) from by omega]
      · have hi' : off + i < o'.cells.length := by simp at hi; omega
        simpa using (hcs _ hi').2
    | none =>
      obtain ⟨o', h1, h2, h3⟩ := hob l o ho hfl
      simp only
      rw [← h3]
      exact .ref h1 (by rw [h2]; exact hm) hl hc (by rw [h3, h2]; exact hs)
  | @ref0 l off o p' ho hm =>
    simp only [V.frz]
    cases hfl : f l with
    | some o' =>
      simp only [Nat.zero_mul, List.take_zero]
      exact .d (.sl (fun _ => undef) (fun i hi => absurd hi (by simp)) (fun i hi => absurd hi (by simp)) (fun h => absurd rfl h) (Nat.le_refl _))
    | none =>
      obtain ⟨o', h1, h2, h3⟩ := hob l o ho hfl
      simp only
      rw [← h3]
      exact .ref0 h1 (by rw [h2]; exact hm)
  | @ptr l off o ho hm =>
    simp only [V.frz]
    cases hfl : f l with
    | some o' =>
      obtain ⟨h1, h2, h3⟩ := hf l o' hfl
      obtain ⟨cs, hcs⟩ := h3.cellsD h2 hX
      exact .d (.ip cs (fun i hi => (hcs i hi).1) (fun i hi => (hcs i hi).2) (fun _ => hX2 l o' hfl))
    | none =>
      obtain ⟨o', h1, h2, h3⟩ := hob l o ho hfl
      simp only
      rw [← h3]
      exact .ptr h1 (by rw [h2]; exact hm)
  | @mp l o ho hm =>
    simp only [V.frz]
    cases hfl : f l with
    | some o' =>
      obtain ⟨h1, h2, h3⟩ := hf l o' hfl
      have e : o' = o := by unfold Live at h1 ho; rw [h1] at ho; cases ho; rfl
      subst e
      exact absurd hm (h3.notImm h2)
    | none =>
      obtain ⟨o', h1, h2, h3⟩ := hob l o ho hfl
      rw [← h3]
      exact .mp h1 (h2.trans hm)
  | ifc h ih => exact .ifc ih
  | @fn g cs caps hs hr ih =>
    simp only [V.frz, frzL_eq]
    exact .fn (by simpa using hs) (fun i hi => by simpa using ih i (by simpa using hi))
  | @agg cs xs hs hr ih =>
    simp only [V.frz, frzL_eq]
    exact .agg (by simpa using hs) (fun i hi => by simpa using ih i (by simpa using hi))
  | @tup cs xs hs hr ih =>
    simp only [V.frz, frzL_eq]
    exact .tup (by simpa using hs) (fun i hi => by simpa using ih i (by simpa using hi))
  | junk => exact .junk

/-- a map over all that a state holds -/
def trO (τ : V → V) (ob : Objs) : Objs := ob.map fun x => x.map fun o => ⟨o.esz, o.cells.map τ⟩
def trS (τ : V → V) (sl : List (Nat × V)) : List (Nat × V) := sl.map fun q => (q.1, τ q.2)

theorem lk_tr (τ : V → V) (hτ : τ .junk = .junk) (t : Nat) (sl : List (Nat × V)) : lk t (trS τ sl) = τ (lk t sl) := by
  induction sl with
  | nil => simp [trS, lk, hτ]
  | cons q r ih =>
    simp only [trS, List.map_cons, lk] at ih ⊢
    cases Nat.beq q.1 t <;> simp [ih]

theorem live_trO {τ : V → V} {ob : Objs} {l : Nat} {o' : Ob} : Live (trO τ ob) l o' ↔ ∃ o, Live ob l o ∧ o' = ⟨o.esz, o.cells.map τ⟩ := by
  unfold Live trO
  rw [List.getElem?_map]
  cases h : ob[l]? with
  | none => simp
  | some x =>
    cases x with
    | none => simp
    | some o => simp; exact eq_comm

/-- the general step of the heap: τ is what becomes of each value -/
theorem HOk.step {F : Fr} {w w' : World} {ρ ρ' : Nat → Pl} {ob ob' : Objs} (h : HOk F w ρ ob) (τ : V → V)
    (hos : w'.os = w.os) (htape : w'.tape = w.tape) (hout : w'.output = w.output) (hsize : w.heap.size ≤ w'.heap.size)
    (hframe : ∀ b, b < F.W.heap.size → ¬ F.io b → w'.heap[b]? = w.heap[b]?)
    (hτ : ∀ v x, RepC w (F.Y ρ ob) ρ ob v x → RepC w' (F.Y ρ' ob') ρ' ob' v (τ x))
    (hob : ∀ l o', Live ob' l o' →
      (∃ o, Live ob l o ∧ o' = ⟨o.esz, o.cells.map τ⟩ ∧ ρ' l = ρ l ∧ w'.heap[(ρ l).blk]? = w.heap[(ρ l).blk]?) ∨
      (ObOk w' (F.Y ρ' ob') ρ' ob' (ρ' l) o' ∧ (F.io (ρ' l).blk ∨ F.W.heap.size ≤ (ρ' l).blk) ∧ (l < F.k → ρ' l = F.ρ0 l)))
    (hinj : ∀ l l' o o', Live ob' l o → Live ob' l' o' → (ρ' l).blk = (ρ' l').blk → l = l') (hτj : τ .junk = .junk := by rfl) (hτs : ∀ v, τ (.sc v) = .sc v := by intro v; rfl) : HOk F w' ρ' ob' where
  os := hos.trans h.os
  tape := htape.trans h.tape
  output := hout.trans h.output
  size := Nat.le_trans h.size hsize
  frame := fun b hb hio => (hframe b hb hio).trans (h.frame b hb hio)
  xlt := h.xlt
  obj := fun l o' ho' => by
    rcases hob l o' ho' with ⟨o, ho, rfl, hρ, hb⟩ | ⟨h1, _⟩
    · rw [hρ]
      have hO := h.obj l o ho
      refine ⟨fun hm => ?_, fun hm => (hO.map hm).elim fun es h1 => h1.elim fun clock h2 => ⟨es, clock, hb.trans h2.1, by simp only [h2.2]; exact mpCells_map τ hτj hτs es⟩⟩
      obtain ⟨⟨cur, e, hr, hs⟩, hf, hc⟩ := hO.cells hm
      refine ⟨⟨cur, e, hb.trans hr, hs⟩, by simpa using hf, fun i hi => ?_⟩
      obtain ⟨c, h1, h2, h3⟩ := hc i (by simpa using hi)
      refine ⟨c, ?_, by simpa using hτ _ _ h2, h3⟩
      rw [← h1]
      exact World.cell?_of_block hb
    · exact h1
  fresh := fun l o' ho' => by
    rcases hob l o' ho' with ⟨o, ho, rfl, hρ, hb⟩ | ⟨_, h1, _⟩
    · rw [hρ]; exact h.fresh l o ho
    · exact h1
  inj := hinj
  stay := fun l o' hk ho' => by
    rcases hob l o' ho' with ⟨o, ho, rfl, hρ, hb⟩ | ⟨_, _, h1⟩
    · rw [hρ]; exact h.stay l o hk ho
    · exact h1 hk

theorem HOk.blk_lt {F : Fr} {w : World} {ρ : Nat → Pl} {ob : Objs} (h : HOk F w ρ ob) {l : Nat} {o : Ob} (ho : Live ob l o) : (ρ l).blk < w.heap.size := (h.obj l o ho).lt

theorem HOk.notX {F : Fr} {w : World} {ρ : Nat → Pl} {ob : Objs} (h : HOk F w ρ ob) {l : Nat} {o : Ob} (ho : Live ob l o) : ¬ F.X (ρ l).blk := by
  intro hx
  obtain ⟨h1, h2⟩ := h.xlt _ hx
  rcases h.fresh l o ho with h3 | h3
  · exact h2 h3
  · omega

theorem Sat.of_heap {F : Fr} {s : AState} {ρ ρ' : Nat → Pl} {a : Act} {w w' : World} {ob' : Objs} (h : Sat F s ρ a w) (τ : V → V) (hj : τ .junk = .junk) (hk : HOk F w' ρ' ob') (hkl : F.k ≤ ob'.length)
    (hτ : ∀ v x, RepC w (F.Y ρ s.ob) ρ s.ob v x → RepC w' (F.Y ρ' ob') ρ' ob' v (τ x)) : Sat F { s with sl := trS τ s.sl, ob := ob' } ρ' a w' where
  heap := hk
  dfs := h.dfs
  size := h.size
  k := h.k
  kle := hkl
  slot := fun t => by
    show RepC w' _ ρ' ob' _ (lk t (trS τ s.sl))
    rw [lk_tr τ hj]
    exact hτ _ _ (h.slot t)

theorem trS_id (sl : List (Nat × V)) : trS id sl = sl := by
  simp [trS]

theorem Sat.of_heap_id {F : Fr} {s : AState} {ρ ρ' : Nat → Pl} {a : Act} {w w' : World} {ob' : Objs} (h : Sat F s ρ a w) (hk : HOk F w' ρ' ob') (hkl : F.k ≤ ob'.length)
    (hτ : ∀ v x, RepC w (F.Y ρ s.ob) ρ s.ob v x → RepC w' (F.Y ρ' ob') ρ' ob' v x) : Sat F { s with ob := ob' } ρ' a w' := by
  have := h.of_heap id rfl hk hkl hτ
  rw [trS_id] at this
  exact this

/-! ### a new object -/

def plNew (ρ : Nat → Pl) (l : Nat) (p : Pl) : Nat → Pl := fun i => if i = l then p else ρ i

theorem plNew_same (ρ : Nat → Pl) (l : Nat) (p : Pl) : plNew ρ l p l = p := by simp [plNew]
theorem plNew_other (ρ : Nat → Pl) (l : Nat) (p : Pl) {i : Nat} (h : i ≠ l) : plNew ρ l p i = ρ i := by simp [plNew, h]

theorem live_snoc {ob : Objs} {o : Option Ob} {l : Nat} {o' : Ob} : Live (ob ++ [o]) l o' ↔ (Live ob l o' ∨ (l = ob.length ∧ o = some o')) := by
  unfold Live
  rw [List.getElem?_append]
  split
  · rename_i h
    constructor
    · exact .inl
    · rintro (h' | ⟨h', _⟩)
      · exact h'
      · omega
  · rename_i h
    constructor
    · intro h'
      have : l - ob.length = 0 := by
        rcases Nat.eq_zero_or_pos (l - ob.length) with h0 | h0
        · exact h0
        · rw [List.getElem?_eq_none (by simp; omega)] at h'; cases h'
      rw [this] at h'
      simp at h'
      exact .inr ⟨by omega, h'⟩
    · rintro (h' | ⟨h', e⟩)
      · rw [List.getElem?_eq_none (by omega)] at h'; cases h'
      · subst h' e; simp

theorem live_lt {ob : Objs} {l : Nat} {o : Ob} (h : Live ob l o) : l < ob.length := by
  unfold Live at h
  exact (List.getElem?_eq_some_iff.1 h).1

theorem HOk.alloc {F : Fr} {w : World} {ρ : Nat → Pl} {ob : Objs} (h : HOk F w ρ ob) (hk : F.k ≤ ob.length) (cur : Array Value) (e : TypeId) (o : Ob) (hm : o.esz ≠ mapSz) (hfit : o.cells.length ≤ cur.size)
    (hrep : ∀ i (h : i < o.cells.length), RepC w (F.Y ρ ob) ρ ob (cur.getD i undef) o.cells[i] ∧ (cur.getD i undef).oneCell' = true) :
    HOk F (w.alloc (.cells cur e)) (plNew ρ ob.length ⟨w.heap.size, 0, cur.size⟩) (ob ++ [some o]) ∧
    (∀ v x, RepC w (F.Y ρ ob) ρ ob v x → RepC (w.alloc (.cells cur e)) (F.Y (plNew ρ ob.length ⟨w.heap.size, 0, cur.size⟩) (ob ++ [some o])) (plNew ρ ob.length ⟨w.heap.size, 0, cur.size⟩) (ob ++ [some o]) v x) := by
  have hne : ∀ {l o'}, Live ob l o' → l ≠ ob.length := fun h e => by have := live_lt h; omega
  have hτ : ∀ v x, RepC w (F.Y ρ ob) ρ ob v x → RepC (w.alloc (.cells cur e)) (F.Y (plNew ρ ob.length ⟨w.heap.size, 0, cur.size⟩) (ob ++ [some o])) (plNew ρ ob.length ⟨w.heap.size, 0, cur.size⟩) (ob ++ [some o]) v x := by
    intro v x hr
    refine hr.mono' (fun a c _ hc => ?_) (fun b hb => ?_) (fun l o' ho => ⟨o', live_snoc.2 (.inl ho), rfl, plNew_other _ _ _ (hne ho)⟩)
    · rw [World.cell?_alloc_lt _ _ _ (World.block_lt_of_cell? w a hc)]; exact hc
    · rintro (hx | ⟨l, o', ho, he⟩)
      · exact .inl hx
      · rcases live_snoc.1 ho with ho | ⟨e1, _⟩
        · rw [plNew_other _ _ _ (hne ho)] at he; exact .inr ⟨l, o', ho, he⟩
        · subst e1; rw [plNew_same] at he; simp at he; omega
  refine ⟨h.step id rfl rfl rfl (by simp) (fun b hb _ => Below.heap_alloc _ _ _ (Nat.lt_of_lt_of_le hb h.size)) hτ (fun l o' ho => ?_) (fun l l' o1 o2 h1 h2 he => ?_), hτ⟩
  · rcases live_snoc.1 ho with ho | ⟨rfl, e2⟩
    · refine .inl ⟨o', ho, by simp, plNew_other _ _ _ (hne ho), Below.heap_alloc _ _ _ (h.blk_lt ho)⟩
    · cases e2
      rw [plNew_same]
      refine .inr ⟨CellsOk.ob hm ⟨⟨cur, e, heap_alloc_new w _, rfl⟩, by simpa using hfit, fun i hi => ?_⟩, .inr h.size, fun hl => by omega⟩
      obtain ⟨h1, h2⟩ := hrep i hi
      refine ⟨cur.getD i undef, ?_, hτ _ _ h1, h2⟩
      have : i < cur.size := by omega
      simp [Array.getD, this]
  · rcases live_snoc.1 h1 with h1 | ⟨rfl, _⟩ <;> rcases live_snoc.1 h2 with h2 | ⟨rfl, _⟩
    · rw [plNew_other _ _ _ (hne h1), plNew_other _ _ _ (hne h2)] at he
      exact h.inj l l' o1 o2 h1 h2 he
    · rw [plNew_other _ _ _ (hne h1), plNew_same] at he
      have := h.blk_lt h1
      simp at he; omega
    · rw [plNew_other _ _ _ (hne h2), plNew_same] at he
      have := h.blk_lt h2
      simp at he; omega
    · rfl

end Go.AG

/-
  AG, part C: objects that are written, placed anew, frozen, dropped; results renamed. Conditions: none.
-/
set_option linter.unusedSimpArgs false
set_option linter.unusedVariables false
namespace Go.AG
open Go.RowKit

def wr {α : Type} (l : List α) (o : Nat) (xs : List α) : List α := l.take o ++ xs ++ l.drop (o + xs.length)

theorem length_wr {α : Type} (l : List α) (o : Nat) (xs : List α) (h : o + xs.length ≤ l.length) : (wr l o xs).length = l.length := by
  simp [wr]; omega

theorem get_wr {α : Type} (l : List α) (o : Nat) (xs : List α) (h : o + xs.length ≤ l.length) (i : Nat) :
    (wr l o xs)[i]? = if i < o then l[i]? else if i < o + xs.length then xs[i - o]? else l[i]? := by
  unfold wr
  rw [List.append_assoc, List.getElem?_append]
  have h1 : (l.take o).length = o := by simp; omega
  rw [h1]
  split
  · rename_i hi; rw [List.getElem?_take, if_pos hi]
  · rename_i hi
    rw [List.getElem?_append]
    split
    · rename_i h2; rw [if_pos (by omega)]
    · rename_i h2
      rw [if_neg (by omega), List.getElem?_drop]
      congr 1; omega

theorem live_set {ob : Objs} {l : Nat} {o : Option Ob} {i : Nat} {x : Ob} : Live (ob.set l o) i x ↔ ((i = l ∧ l < ob.length ∧ o = some x) ∨ (i ≠ l ∧ Live ob i x)) := by
  unfold Live
  rw [List.getElem?_set]
  by_cases h : l = i
  · subst h
    simp only [if_true]
    by_cases hl : l < ob.length
    · simp [hl]
    · simp [hl]
  · simp [h, Ne.symm h]

/-! ### a store -/

theorem HOk.store {F : Fr} {w : World} {ρ : Nat → Pl} {ob : Objs} (h : HOk F w ρ ob) {l : Nat} {o : Ob} (ho : Live ob l o) (hm : o.esz ≠ mapSz) (off : Nat) (vs : List Value) (xs : List V)
    (hlen : vs.length = xs.length) (hfit : off + xs.length ≤ o.cells.length)
    (hrep : ∀ i (h : i < xs.length), RepC w (F.Y ρ ob) ρ ob (vs.getD i undef) xs[i]) (h1 : ∀ v ∈ vs, v.oneCell' = true) :
    ∃ w', (∀ P : Program, (storeCells ⟨(ρ l).blk, (ρ l).base + off, none⟩ vs 0).run P w = .ok () w') ∧ HOk F w' ρ (ob.set l (some ⟨o.esz, wr o.cells off xs⟩)) ∧
      (∀ v x, RepC w (F.Y ρ ob) ρ ob v x → RepC w' (F.Y ρ (ob.set l (some ⟨o.esz, wr o.cells off xs⟩))) ρ (ob.set l (some ⟨o.esz, wr o.cells off xs⟩)) v x) ∧
      (∀ b, b ≠ (ρ l).blk → w'.heap[b]? = w.heap[b]?) ∧ w.heap.size ≤ w'.heap.size := by
  obtain ⟨⟨cur, e, hr, hs⟩, hf, hc⟩ := (h.obj l o ho).cells hm
  have hl := live_lt ho
  have hfit2 : (ρ l).base + off + vs.length ≤ cur.size := by omega
  have hY : ∀ b, F.Y ρ (ob.set l (some ⟨o.esz, wr o.cells off xs⟩)) b → F.Y ρ ob b := by
    rintro b (hx | ⟨i, x, hi, he⟩)
    · exact .inl hx
    · rcases live_set.1 hi with ⟨rfl, _, _⟩ | ⟨_, hi⟩
      · exact .inr ⟨_, o, ho, he⟩
      · exact .inr ⟨i, x, hi, he⟩
  have hτ : ∀ v x, RepC w (F.Y ρ ob) ρ ob v x → RepC (w.setRow (ρ l).blk (wr cur.toList ((ρ l).base + off) vs).toArray) (F.Y ρ (ob.set l (some ⟨o.esz, wr o.cells off xs⟩))) ρ (ob.set l (some ⟨o.esz, wr o.cells off xs⟩)) v x := by
    intro v x hx
    refine hx.mono' (fun a c hn hcell => ?_) (fun b _ => hY b) (fun i o2 hi => ?_)
    · have hne : a.block ≠ (ρ l).blk := fun e => hn (.inr ⟨l, o, ho, e.symm⟩)
      rw [← hcell]
      exact World.cell?_of_block (setRow_other w _ _ _ hne)
    · by_cases e : i = l
      · subst e
        have : o2 = o := by unfold Live at hi ho; rw [hi] at ho; cases ho; rfl
        subst this
        exact ⟨_, live_set.2 (.inl ⟨rfl, hl, rfl⟩), rfl, rfl⟩
      · exact ⟨o2, live_set.2 (.inr ⟨e, hi⟩), rfl, rfl⟩
  refine ⟨w.setRow (ρ l).blk (wr cur.toList ((ρ l).base + off) vs).toArray, fun P => ?_, ?_, hτ, fun b hb => setRow_other w _ _ _ hb, by simp⟩
  · have := run_storeCells_at P (ρ l).blk ((ρ l).base + off) e vs 0 cur w hr (by simpa using hfit2) h1
    simpa [wr] using this
  · refine h.step id rfl rfl rfl (by simp) (fun b hb hio => ?_) hτ (fun i o2 hi => ?_) (fun i j o1 o2 hi hj he => ?_)
    · refine setRow_other w _ _ _ (fun e => ?_)
      rcases h.fresh l o ho with h3 | h3
      · exact hio (e ▸ h3)
      · omega
    · rcases live_set.1 hi with ⟨rfl, _, e2⟩ | ⟨hne, hi⟩
      · cases e2
        refine .inr ⟨CellsOk.ob hm ⟨⟨_, e, setRow_heap w _ cur _ e _ hr, ?_⟩, ?_, fun j hj => ?_⟩, h.fresh _ o ho, fun hk => h.stay _ o hk ho⟩
        · simp only [List.size_toArray]; rw [length_wr _ _ _ (by simpa using hfit2)]; simpa using hs
        · simp only; rw [length_wr _ _ _ hfit]; exact hf
        · simp only at hj
          rw [length_wr _ _ _ hfit] at hj
          have hget := get_wr o.cells off xs hfit j
          have hget2 := get_wr cur.toList ((ρ i).base + off) vs (by simpa using hfit2) ((ρ i).base + j)
          have hcell : ∀ c, (wr cur.toList ((ρ i).base + off) vs)[(ρ i).base + j]? = some c → (w.setRow (ρ i).blk (wr cur.toList ((ρ i).base + off) vs).toArray).cell? ⟨(ρ i).blk, (ρ i).base + j, none⟩ = some c := by
            intro c hc'
            simp only [World.cell?, setRow_heap w _ cur _ e _ hr]
            simpa using hc'
          by_cases hin : off ≤ j ∧ j < off + xs.length
          · rw [if_neg (by omega), if_pos (by omega)] at hget hget2
            have hx : j - off < xs.length := by omega
            have hv : j - off < vs.length := by omega
            rw [show (ρ i).base + j - ((ρ i).base + off) = j - off from by omega, List.getElem?_eq_getElem hv] at hget2
            rw [List.getElem?_eq_getElem hx] at hget
            refine ⟨_, hcell _ hget2, ?_, h1 _ (List.getElem_mem hv)⟩
            have h3 := hrep (j - off) hx
            rw [show vs.getD (j - off) undef = vs[j - off] from by simp [List.getD, hv]] at h3
            have h4 := hτ _ _ h3
            have h5 : (wr o.cells off xs)[j]'(by rw [length_wr _ _ _ hfit]; exact hj) = xs[j - off] := by
              have := hget; rw [List.getElem?_eq_some_iff] at this; exact this.2
            simp only [h5]
            exact h4
          · have hold : (wr o.cells off xs)[j]? = o.cells[j]? := by
              rw [hget]; split
              · rfl
              · rw [if_neg (by omega)]
            have hold2 : (wr cur.toList ((ρ i).base + off) vs)[(ρ i).base + j]? = cur.toList[(ρ i).base + j]? := by
              rw [hget2]; split
              · rfl
              · rw [if_neg (by omega)]
            obtain ⟨c, h2, h3, h4⟩ := hc j hj
            have hcc : cur.toList[(ρ i).base + j]? = some c := by
              simp only [World.cell?, hr] at h2
              simpa using h2
            refine ⟨c, hcell _ (hold2.trans hcc), ?_, h4⟩
            have h5 : (wr o.cells off xs)[j]'(by rw [length_wr _ _ _ hfit]; exact hj) = o.cells[j] := by
              rw [List.getElem?_eq_getElem hj] at hold; rw [List.getElem?_eq_some_iff] at hold; exact hold.2
            simp only [h5]
            exact hτ _ _ h3
      · refine .inl ⟨o2, hi, by simp, rfl, setRow_other w _ _ _ (fun e => hne (h.inj _ _ _ _ hi ho e))⟩
    · have fix : ∀ {i o1}, Live (ob.set l (some ⟨o.esz, wr o.cells off xs⟩)) i o1 → ∃ o2, Live ob i o2 := by
        intro i o1 hi
        rcases live_set.1 hi with ⟨rfl, _, _⟩ | ⟨_, hi⟩
        · exact ⟨o, ho⟩
        · exact ⟨_, hi⟩
      obtain ⟨p1, hp1⟩ := fix hi
      obtain ⟨p2, hp2⟩ := fix hj
      exact h.inj i j p1 p2 hp1 hp2 he

/-! ### an object at a new place (append); the elder references to it are junk -/

def killB (l : Nat) : Nat → Bool := fun i => Nat.beq i l

theorem killB_self (l : Nat) : killB l l = true := by simp [killB]
theorem killB_ne {l i : Nat} (h : i ≠ l) : killB l i = false := by
  cases hb : killB l i with
  | false => rfl
  | true => exact absurd (Nat.eq_of_beq_eq_true hb) h

theorem HOk.place {F : Fr} {w w' : World} {ρ : Nat → Pl} {ob : Objs} (h : HOk F w ρ ob) {l : Nat} (hl : l < ob.length) (hk : F.k ≤ l) (p : Pl) (o' : Ob) (hm : o'.esz ≠ mapSz)
    (hos : w'.os = w.os) (htape : w'.tape = w.tape) (hout : w'.output = w.output) (hsize : w.heap.size ≤ w'.heap.size)
    (hg : (∃ o, Live ob l o ∧ p.blk = (ρ l).blk) ∨ w.heap.size ≤ p.blk)
    (hoth : ∀ b, b < w.heap.size → b ≠ p.blk → w'.heap[b]? = w.heap[b]?)
    (hrow : ∃ cur e, w'.heap[p.blk]? = some (.cells cur e (0, 0)) ∧ cur.size = p.size) (hfit : p.base + o'.cells.length ≤ p.size)
    (hcell : ∀ i (h : i < o'.cells.length), ∃ c x, w'.cell? ⟨p.blk, p.base + i, none⟩ = some c ∧ RepC w (F.Y ρ ob) ρ ob c x ∧ o'.cells[i] = x.kill (killB l) ∧ c.oneCell' = true) :
    HOk F w' (plNew ρ l p) ((trO (V.kill (killB l)) ob).set l (some o')) ∧
    (∀ v x, RepC w (F.Y ρ ob) ρ ob v x → RepC w' (F.Y (plNew ρ l p) ((trO (V.kill (killB l)) ob).set l (some o'))) (plNew ρ l p) ((trO (V.kill (killB l)) ob).set l (some o')) v (x.kill (killB l))) := by
  have hlen : (trO (V.kill (killB l)) ob).length = ob.length := by simp [trO]
  have hfr : F.io p.blk ∨ F.W.heap.size ≤ p.blk := by
    rcases hg with ⟨o, ho, e⟩ | e
    · rw [e]
      exact h.fresh l o ho
    · exact .inr (Nat.le_trans h.size e)
  have hnew : ∀ {i o2}, Live ((trO (V.kill (killB l)) ob).set l (some o')) i o2 → i ≠ l → ∃ o1, Live ob i o1 ∧ o2 = ⟨o1.esz, o1.cells.map (V.kill (killB l))⟩ := by
    intro i o2 hi hne
    rcases live_set.1 hi with ⟨e, _⟩ | ⟨_, hi⟩
    · exact absurd e hne
    · obtain ⟨o1, h1, h2⟩ := live_trO.1 hi
      exact ⟨o1, h1, h2⟩
  have hτ : ∀ v x, RepC w (F.Y ρ ob) ρ ob v x → RepC w' (F.Y (plNew ρ l p) ((trO (V.kill (killB l)) ob).set l (some o'))) (plNew ρ l p) ((trO (V.kill (killB l)) ob).set l (some o')) v (x.kill (killB l)) := by
    intro v x hx
    refine hx.mono (fun a c hn hc => ?_) (fun b hb => ?_) (killB l) (fun i o hpi hi => ?_)
    · have hlt := World.block_lt_of_cell? w a hc
      have hne : a.block ≠ p.blk := by
        intro e
        rcases hg with ⟨o, ho, e2⟩ | e2
        · exact hn (.inr ⟨l, o, ho, by rw [← e2, e]⟩)
        · omega
      rw [← hc]
      exact World.cell?_of_block (hoth _ hlt hne)
    · rintro (hx | ⟨i, o2, hi, he⟩)
      · exact .inl hx
      · by_cases e : i = l
        · subst e
          rw [plNew_same] at he
          rcases hg with ⟨o, ho, e2⟩ | e2
          · exact .inr ⟨i, o, ho, by rw [← e2, he]⟩
          · omega
        · obtain ⟨o1, h1, _⟩ := hnew hi e
          rw [plNew_other _ _ _ e] at he
          exact .inr ⟨i, o1, h1, he⟩
    · have hne : i ≠ l := fun e => by rw [e, killB_self] at hpi; cases hpi
      exact ⟨_, live_set.2 (.inr ⟨hne, live_trO.2 ⟨o, hi, rfl⟩⟩), rfl, plNew_other _ _ _ hne⟩
  refine ⟨h.step (V.kill (killB l)) hos htape hout hsize (fun b hb hio => hoth b (Nat.lt_of_lt_of_le hb h.size) (fun e => by rcases hfr with h3 | h3; exact hio (e ▸ h3); omega)) hτ (fun i o2 hi => ?_) (fun i j o1 o2 hi hj he => ?_), hτ⟩
  · by_cases e : i = l
    · subst e
      have : o2 = o' := by
        rcases live_set.1 hi with ⟨_, _, e2⟩ | ⟨h2, _⟩
        · cases e2; rfl
        · exact absurd rfl h2
      subst this
      rw [plNew_same]
      refine .inr ⟨CellsOk.ob hm ⟨hrow, hfit, fun j hj => ?_⟩, hfr, fun hk2 => by omega⟩
      obtain ⟨c, x, h1, h2, h3, h4⟩ := hcell j hj
      rw [h3]
      exact ⟨c, h1, hτ _ _ h2, h4⟩
    · obtain ⟨o1, h1, h2⟩ := hnew hi e
      refine .inl ⟨o1, h1, h2, plNew_other _ _ _ e, hoth _ (h.blk_lt h1) (fun e2 => ?_)⟩
      rcases hg with ⟨o, ho, e3⟩ | e3
      · exact e (h.inj i l o1 o h1 ho (e2.trans e3))
      · have := h.blk_lt h1; omega
  · by_cases e1 : i = l <;> by_cases e2 : j = l
    · omega
    · obtain ⟨q, h1, _⟩ := hnew hj e2
      rw [e1, plNew_same, plNew_other _ _ _ e2] at he
      rcases hg with ⟨o, ho, e3⟩ | e3
      · exact absurd (h.inj j l q o h1 ho (he.symm.trans e3)) e2
      · have := h.blk_lt h1; omega
    · obtain ⟨q, h1, _⟩ := hnew hi e1
      rw [e2, plNew_same, plNew_other _ _ _ e1] at he
      rcases hg with ⟨o, ho, e3⟩ | e3
      · exact absurd (h.inj i l q o h1 ho (he.trans e3)) e1
      · have := h.blk_lt h1; omega
    · obtain ⟨q1, h1, _⟩ := hnew hi e1
      obtain ⟨q2, h2, _⟩ := hnew hj e2
      rw [plNew_other _ _ _ e1, plNew_other _ _ _ e2] at he
      exact h.inj i j q1 q2 h1 h2 he

/-! ### an object frozen -/

def oneF (l : Nat) (o : Ob) : Nat → Option Ob := fun i => bif Nat.beq i l then some o else none

theorem oneF_some {l i : Nat} {o x : Ob} (h : oneF l o i = some x) : i = l ∧ x = o := by
  unfold oneF at h
  cases hb : Nat.beq i l with
  | false => simp [hb] at h
  | true => simp [hb] at h; exact ⟨Nat.eq_of_beq_eq_true hb, h.symm⟩

theorem oneF_none {l i : Nat} {o : Ob} (h : oneF l o i = none) : i ≠ l := by
  rintro rfl
  simp [oneF] at h

theorem HOk.freeze {F : Fr} {w : World} {ρ : Nat → Pl} {ob : Objs} (h : HOk F w ρ ob) {l : Nat} {o : Ob} (ho : Live ob l o) (hi : V.immL o.cells = true) :
    HOk F w ρ ((trO (V.frz (oneF l o)) ob).set l none) ∧
    (∀ v x, RepC w (F.Y ρ ob) ρ ob v x → RepC w (F.Y ρ ((trO (V.frz (oneF l o)) ob).set l none)) ρ ((trO (V.frz (oneF l o)) ob).set l none) v (x.frz (oneF l o))) := by
  have hold : ∀ {i o2}, Live ((trO (V.frz (oneF l o)) ob).set l none) i o2 → i ≠ l ∧ ∃ o1, Live ob i o1 ∧ o2 = ⟨o1.esz, o1.cells.map (V.frz (oneF l o))⟩ := by
    intro i o2 hi
    rcases live_set.1 hi with ⟨_, _, e⟩ | ⟨hne, hi⟩
    · cases e
    · exact ⟨hne, live_trO.1 hi⟩
  have hτ : ∀ v x, RepC w (F.Y ρ ob) ρ ob v x → RepC w (F.Y ρ ((trO (V.frz (oneF l o)) ob).set l none)) ρ ((trO (V.frz (oneF l o)) ob).set l none) v (x.frz (oneF l o)) := by
    intro v x hx
    refine hx.frz (oneF l o) (fun i o2 hf => ?_) (fun b hb => ?_) (fun i o2 hf => ?_) (fun i o2 hi2 hf => ?_)
    · obtain ⟨rfl, rfl⟩ := oneF_some hf
      exact ⟨ho, hi, h.obj _ _ ho⟩
    · rintro (hx | ⟨i, o2, hi2, he⟩)
      · exact .inl hx
      · obtain ⟨_, o1, h1, _⟩ := hold hi2
        exact .inr ⟨i, o1, h1, he⟩
    · obtain ⟨rfl, rfl⟩ := oneF_some hf
      rintro (hx | ⟨j, o3, hj, he⟩)
      · exact h.notX ho hx
      · obtain ⟨hne, o1, h1, _⟩ := hold hj
        exact hne (h.inj j i o1 o2 h1 ho he)
    · have hne := oneF_none hf
      exact ⟨_, live_set.2 (.inr ⟨hne, live_trO.2 ⟨o2, hi2, rfl⟩⟩), rfl, rfl⟩
  refine ⟨h.step (V.frz (oneF l o)) rfl rfl rfl (Nat.le_refl _) (fun _ _ _ => rfl) hτ (fun i o2 hi2 => ?_) (fun i j o1 o2 h1 h2 he => ?_), hτ⟩
  · obtain ⟨hne, o1, h1, h2⟩ := hold hi2
    exact .inl ⟨o1, h1, h2, rfl, rfl⟩
  · obtain ⟨_, q1, h1, _⟩ := hold h1
    obtain ⟨_, q2, h2, _⟩ := hold h2
    exact h.inj i j q1 q2 h1 h2 he

/-! ### a weaker state -/

def V.le (x y : V) : Prop := x = y ∨ y = .junk ∨ (x = .sc (.slice none 0 0) ∧ y = .sl 0 [])

theorem V.le_refl (x : V) : V.le x x := .inl rfl

theorem RepC.le {w : World} {Y : Nat → Prop} {ρ : Nat → Pl} {ob : Objs} {v : Value} {x y : V} (h : RepC w Y ρ ob v x) (hl : V.le x y) : RepC w Y ρ ob v y := by
  rcases hl with rfl | rfl | ⟨rfl, rfl⟩
  · exact h
  · exact .junk
  · cases h with
    | d h => cases h with | sc v => exact .d .nil

def fromB (m : Nat) : Nat → Bool := fun i => Nat.ble m i

def leSl (p : Nat → Bool) (s : AState) : List (Nat × V) → Prop
  | [] => True
  | q :: r => V.le ((s.get q.1).kill p) q.2 ∧ leSl p s r

def leOb (p : Nat → Bool) : Objs → Objs → Prop
  | [], _ => True
  | none :: r, none :: r' => leOb p r r'
  | some o :: r, some o' :: r' => (o.esz = o'.esz ∧ V.killL p o'.cells = o.cells) ∧ leOb p r r'
  | _ :: _, _ => False

/-- t is s, some slots and the objects from a number on forgotten -/
def leS (s t : AState) : Prop := s.n = t.n ∧ s.k = t.k ∧ t.k ≤ t.ob.length ∧ leSl (fromB t.ob.length) s t.sl ∧ leOb (fromB t.ob.length) t.ob s.ob

theorem leSl_get {p : Nat → Bool} {s : AState} {sl : List (Nat × V)} (h : leSl p s sl) (t : Nat) : V.le ((s.get t).kill p) (lk t sl) := by
  induction sl with
  | nil => exact .inr (.inl rfl)
  | cons q r ih =>
    obtain ⟨h1, h2⟩ := h
    simp only [lk]
    cases hb : Nat.beq q.1 t with
    | true => have := Nat.eq_of_beq_eq_true hb; subst this; exact h1
    | false => exact ih h2

theorem leOb_live {p : Nat → Bool} {ob ob' : Objs} (h : leOb p ob ob') (l : Nat) :
    (∀ o, Live ob l o → ∃ o', Live ob' l o' ∧ o = ⟨o'.esz, o'.cells.map (V.kill p)⟩) ∧ (l < ob.length → ∀ o', Live ob' l o' → ∃ o, Live ob l o) := by
  induction ob generalizing ob' l with
  | nil => exact ⟨fun o h => by simp [Live] at h, fun h => by simp at h⟩
  | cons x r ih =>
    cases ob' with
    | nil => cases x <;> simp [leOb] at h
    | cons y r' =>
      cases l with
      | zero =>
        cases x <;> cases y <;> simp only [leOb] at h
        · exact ⟨fun o h => by simp [Live] at h, fun _ o h => by simp [Live] at h⟩
        · rename_i o o'
          obtain ⟨⟨h1, h2⟩, _⟩ := h
          rw [killL_eq] at h2
          refine ⟨fun q hq => ⟨o', rfl, ?_⟩, fun _ q hq => ⟨o, rfl⟩⟩
          simp [Live] at hq
          subst hq
          cases o; simp_all
      | succ l =>
        have hr : leOb p r r' := by cases x <;> cases y <;> simp [leOb] at h <;> first | exact h | exact h.2
        have := ih hr l
        simpa [Live] using this

theorem Sat.le {F : Fr} {s t : AState} {ρ : Nat → Pl} {a : Act} {w : World} (h : Sat F s ρ a w) (hl : leS s t) : Sat F t ρ a w := by
  obtain ⟨hn, hk, hkl, hsl, hob⟩ := hl
  have hτ : ∀ v x, RepC w (F.Y ρ s.ob) ρ s.ob v x → RepC w (F.Y ρ t.ob) ρ t.ob v (x.kill (fromB t.ob.length)) := by
    intro v x hx
    refine hx.mono (fun _ _ _ h => h) (fun b hb => ?_) _ (fun l o hp ho => ?_)
    · rintro (hx | ⟨i, o, hi, he⟩)
      · exact .inl hx
      · obtain ⟨o', h1, _⟩ := (leOb_live hob i).1 o hi
        exact .inr ⟨i, o', h1, he⟩
    · have hlt : l < t.ob.length := by
        have : ¬ t.ob.length ≤ l := fun hle => by
          have := Nat.ble_eq_true_of_le hle
          unfold fromB at hp; rw [this] at hp; cases hp
        omega
      obtain ⟨o', h1⟩ := (leOb_live hob l).2 hlt o ho
      obtain ⟨o2, h2, h3⟩ := (leOb_live hob l).1 o' h1
      have : o2 = o := by unfold Live at h2 ho; rw [h2] at ho; cases ho; rfl
      subst this
      exact ⟨o', h1, by rw [h3], rfl⟩
  refine ⟨h.heap.step (V.kill (fromB t.ob.length)) rfl rfl rfl (Nat.le_refl _) (fun _ _ _ => rfl) hτ (fun l o ho => ?_) (fun i j o1 o2 h1 h2 he => ?_), h.dfs, h.size.trans hn, hk.symm.trans h.k, by rw [← h.k, hk]; exact hkl, fun u => ?_⟩
  · obtain ⟨o', h1, h2⟩ := (leOb_live hob l).1 o ho
    exact .inl ⟨o', h1, h2, rfl, rfl⟩
  · obtain ⟨q1, h1, _⟩ := (leOb_live hob i).1 o1 h1
    obtain ⟨q2, h2, _⟩ := (leOb_live hob j).1 o2 h2
    exact h.heap.inj i j q1 q2 h1 h2 he
  · exact (hτ _ _ (h.slot u)).le (leSl_get hsl u)

end Go.AG

/-
  AG, part D: the operations that only read, on abstract values, and that the model's operations do just that. Conditions: none.
-/
set_option linter.unusedSimpArgs false
set_option linter.unusedVariables false
namespace Go.AG
open Go.RowKit

inductive AD where
  | other | bool | string | func
  | int (k : IntKind)
  | slice (e : TypeId)
  | pointer (e : TypeId)
  | struct (fs : List (Nat × TypeId))
  | array (n : Nat) (e : TypeId)
  | map (k e : TypeId)

structure TI where
  ok : Bool
  desc : AD
  size : Nat
  bytes : Nat
  zero : List Value

def adOf : TypeDesc → AD
  | .bool => .bool
  | .int k => .int k
  | .string => .string
  | .slice e => .slice e
  | .pointer e => .pointer e
  | .struct fs => .struct (fs.toList.map fun f => (f.offset, f.type))
  | .array n e => .array n e
  | .func .. => .func
  | .map k e => .map k e
  | _ => .other

/-- what a program says of a type -/
def ti (P : Program) (t : TypeId) : TI :=
  match P.info? t, P.underlying t with
  | some i, some d => match Nat.beq i.size mapSz with
    | true => ⟨false, .other, 0, 0, []⟩
    | false => ⟨true, adOf d, i.size, i.bytes, match i.zero with | some z => z.cells.toList | none => []⟩
  | _, _ => ⟨false, .other, 0, 0, []⟩

def AD.agg : AD → Bool
  | .struct _ => true
  | .array _ _ => true
  | _ => false

/-- a condition, then the rest -/
def grd (c : Prop) (p : Prop) : Prop := c ∧ p
theorem grd_of {c : Prop} (h : c) (p : Prop) : grd c p = p := by simp [grd, h]
theorem grd_intro {c p : Prop} (h : c) (hp : p) : grd c p := ⟨h, hp⟩

def vcells : V → List V
  | .agg xs => xs
  | x => [x]

def vPick (c x y : V) (K : V → Prop) : Prop := match c with
  | .sc (.bool true) => K x
  | .sc (.bool false) => K y
  | _ => False

/-- what lies at a place of a list of cells -/
def vAt (xs : List V) (off : Nat) (K : V → Prop) : Prop := match xs[off]? with
  | some x => K x
  | none => False

def vPart (agg : Bool) (size : Nat) (xs : List V) (off : Nat) (K : V → Prop) : Prop :=
  match agg with
  | true => grd (off + size ≤ xs.length) (K (.agg ((xs.drop off).take size)))
  | false => vAt xs off K

def vObj (ob : Objs) (l : Nat) (K : Ob → Prop) : Prop := match ob[l]? with
  | some (some o) => K o
  | _ => False

def vLoad (t : TI) (x : V) (ob : Objs) (K : V → Prop) : Prop := match x with
  | .ip xs off => grd (t.ok = true) (vPart t.desc.agg t.size xs off K)
  | .ptr l off => grd (t.ok = true) (vObj ob l fun o => vPart t.desc.agg t.size o.cells off K)
  | _ => False

def vNil (x : V) (K : V → Prop) : Prop := match x with
  | .ip xs off => K (.ip xs off)
  | .ptr l off => K (.ptr l off)
  | .fn f caps => K (.fn f caps)
  | _ => False

def vFieldAddr (P : Program) (d : AD) (x : V) (f : Nat) (K : V → Prop) : Prop := match d with
  | .struct fs => match fs[f]? with
    | some (o, t) => grd ((ti P t).ok = true ∧ (ti P t).size ≠ 0) (match x with
      | .ip xs off => K (.ip xs (off + o))
      | .ptr l off => K (.ptr l (off + o))
      | _ => False)
    | none => False
  | _ => False

def vField (P : Program) (d : AD) (x : V) (f : Nat) (K : V → Prop) : Prop := match d, x with
  | .struct fs, .agg xs => match fs[f]? with
    | some (o, t) => grd ((ti P t).ok = true) (vPart (ti P t).desc.agg (ti P t).size xs o K)
    | none => False
  | _, _ => False

def vIdxAddr (P : Program) (d : AD) (x i : V) (K : V → Prop) : Prop := match d, i with
  | .slice e, .sc (.int _ n) => match x with
    | .sl len xs => grd ((ti P e).ok = true ∧ 0 ≤ n ∧ n < len) (K (.ip xs (n.toNat * (ti P e).size)))
    | .ref l off len => grd ((ti P e).ok = true ∧ 0 ≤ n ∧ n < len) (K (.ptr l (off + n.toNat * (ti P e).size)))
    | _ => False
  | .array m e, .sc (.int _ n) => match x with
    | .ip xs off => grd ((ti P e).ok = true ∧ 0 ≤ n ∧ n < m) (K (.ip xs (off + n.toNat * (ti P e).size)))
    | .ptr l off => grd ((ti P e).ok = true ∧ 0 ≤ n ∧ n < m) (K (.ptr l (off + n.toNat * (ti P e).size)))
    | _ => False
  | _, _ => False

/-- a letter of a text, as a number -/
def byteAt (s : ByteArray) (n : Nat) : Int := ((s.data.toList.getD n 0).toNat : Int)

def vIdx (P : Program) (d : AD) (x i : V) (K : V → Prop) : Prop := match d, x, i with
  | .string, .sc (.string s), .sc (.int _ n) => grd (0 ≤ n ∧ n < (s.size : Int)) (K (.sc (.int .u8 (byteAt s n.toNat))))
  | _, _, _ => False

def vExtract (x : V) (i : Nat) (K : V → Prop) : Prop := match x with
  | .tup xs => vAt xs i K
  | _ => False

def boundV (x : Option V) (dflt : Int) (K : Int → Prop) : Prop := match x with
  | none => K dflt
  | some (.sc (.int _ n)) => K n
  | _ => False

def vSlice (P : Program) (ob : Objs) (d : AD) (x : V) (lo hi : Option V) (K : V → Prop) : Prop := match d with
  | .slice e => match x with
    | .sl len xs => boundV lo 0 fun l => boundV hi len fun h => grd ((ti P e).ok = true ∧ 0 ≤ l ∧ l ≤ h ∧ h ≤ len) (K (.sl (h - l).toNat ((xs.drop (l.toNat * (ti P e).size)).take ((h - l).toNat * (ti P e).size))))
    | .ref o off len => boundV lo 0 fun l => boundV hi len fun h => grd ((ti P e).ok = true ∧ 0 ≤ l ∧ l ≤ h ∧ h ≤ len) (vObj ob o fun q => grd (q.esz = (ti P e).size) (K (.ref o (off + l.toNat * (ti P e).size) (h - l).toNat)))
    | _ => False
  | .string => match x with
    | .sc (.string s) => boundV lo 0 fun l => boundV hi s.size fun h => grd (0 ≤ l ∧ l ≤ h ∧ h ≤ s.size) (K (.sc (.string (s.extract l.toNat h.toNat))))
    | _ => False
  | _ => False

/-- an operator on two scalars -/
def sbin (d : AD) (op : BinOp) (a b : Value) : Option Value := match op, a, b with
  | .shl, .int k x, .int _ y => if y < 0 then none else some (.int k (k.wrap (x * 2 ^ (min y.toNat k.bits))))
  | .shr, .int k x, .int _ y => if y < 0 then none else some (.int k (x.fdiv (2 ^ (min y.toNat k.bits))))
  | op, .int k x, .int k' y => if k ≠ k' then none else match op with
    | .add => some (.int k (k.wrap (x + y)))
    | .sub => some (.int k (k.wrap (x - y)))
    | .mul => some (.int k (k.wrap (x * y)))
    | .quo => if y = 0 then none else some (.int k (k.wrap (x.tdiv y)))
    | .rem => if y = 0 then none else some (.int k (x.tmod y))
    | .and => some (.int k (bits .and k x y))
    | .or => some (.int k (bits .or k x y))
    | .xor => some (.int k (bits .xor k x y))
    | .eql => some (.bool (x == y))
    | .neq => some (.bool (x != y))
    | .lss => some (.bool (x < y))
    | .leq => some (.bool (x ≤ y))
    | .gtr => some (.bool (x > y))
    | .geq => some (.bool (x ≥ y))
    | _ => none
  | .add, .string x, .string y => if x.size + y.size ≤ 9223372036854775807 then some (.string (x ++ y)) else none
  | .eql, .string x, .string y => some (.bool (x.toList == y.toList))
  | .neq, .string x, .string y => some (.bool !(x.toList == y.toList))
  | .lss, .string x, .string y => some (.bool (Op.bytesLess x.toList y.toList))
  | .leq, .string x, .string y => some (.bool (Op.bytesLess x.toList y.toList || x.toList == y.toList))
  | .gtr, .string x, .string y => some (.bool !(Op.bytesLess x.toList y.toList || x.toList == y.toList))
  | .geq, .string x, .string y => some (.bool !(Op.bytesLess x.toList y.toList))
  | .eql, .bool x, .bool y => match d with | .bool => some (.bool (x == y)) | _ => none
  | .neq, .bool x, .bool y => match d with | .bool => some (.bool !(x == y)) | _ => none
  | _, _, _ => none

def vBin (d : AD) (op : BinOp) (x y : V) (K : V → Prop) : Prop := match x, y with
  | .sc a, .sc b => match sbin d op a b with
    | some c => K (.sc c)
    | none => False
  | _, _ => False

/-- the fields of a struct whose values can be compared -/
def isStr : Option TypeDesc → Bool
  | some (.struct _) => true
  | _ => false
def eqOk (P : Program) (t : TypeId) : Bool := isStr (P.underlying t) && (P.fieldsOf t).toList.all (fun f => f.name != "_") && !(P.stoodInHeld t) && !(P.eqGuardType P.depth t)
def eqInfo (P : Program) (t : TypeId) : Option (List (Nat × TypeId)) := bif eqOk P t then some ((P.fieldsOf t).toList.map fun f => (f.offset, f.type)) else none
def vEqV (d : AD) (x y : V) (K : Bool → Prop) : Prop := match d, x, y with
  | .int _, .sc (.int k a), .sc (.int k' b) => grd (k = k') (K (a == b))
  | .bool, .sc (.bool a), .sc (.bool b) => K (a == b)
  | .string, .sc (.string a), .sc (.string b) => K (a.toList == b.toList)
  | _, _, _ => False
def vEqF (P : Program) : List (Nat × TypeId) → List V → List V → (Bool → Prop) → Prop
  | [], _, _, K => K true
  | (o, u) :: fs, xs, ys, K => vAt xs o fun x => vAt ys o fun y => vEqV (ti P u).desc x y fun b => vEqF P fs xs ys fun c => K (b && c)
def vEqS (P : Program) (i : Option (List (Nat × TypeId))) (op : BinOp) (xs ys : List V) (K : V → Prop) : Prop := match i, op with
  | some fs, .eql => vEqF P fs xs ys fun b => K (.sc (.bool b))
  | some fs, .neq => vEqF P fs xs ys fun b => K (.sc (.bool !b))
  | _, _ => False
/-- a slice against nil -/
def vNilC (d : AD) (op : BinOp) (b : Bool) (K : V → Prop) : Prop := match d, op with
  | .slice _, .eql => K (.sc (.bool b))
  | .slice _, .neq => K (.sc (.bool !b))
  | _, _ => False
def vBin2 (P : Program) (t : TypeId) (op : BinOp) (x y : V) (K : V → Prop) : Prop := match x, y with
  | .agg xs, .agg ys => vEqS P (eqInfo P t) op xs ys K
  | .ref _ _ _, .sc (.slice none 0 0) => vNilC (ti P t).desc op false K
  | .sc (.slice none 0 0), .sc (.slice none 0 0) => vNilC (ti P t).desc op true K
  | x, y => vBin (ti P t).desc op x y K

def vUn (op : UnOp) (x : V) (K : V → Prop) : Prop := match op, x with
  | .not, .sc (.bool b) => K (.sc (.bool !b))
  | .neg, .sc (.int k n) => K (.sc (.int k (k.wrap (0 - n))))
  | _, _ => False

/-- bytes, as numbers -/
def byteL : List V → Option (List Int)
  | [] => some []
  | .sc (.int .u8 n) :: r => (byteL r).map (n :: ·)
  | _ => none
def isU8 : AD → Bool
  | .int .u8 => true
  | _ => false
/-- a text out of bytes -/
def mkS (ns : List Int) : ByteArray := ⟨(ns.map fun n => UInt8.ofNat n.toNat).toArray⟩
def vByt (o : Option (List Int)) (len : Nat) (K : V → Prop) : Prop := match o with
  | some ns => grd (ns.length = len) (K (.sc (.string (mkS ns))))
  | none => False
def vB2S (P : Program) (ob : Objs) (e : TypeId) (x : V) (K : V → Prop) : Prop := match x with
  | .sl len xs => grd (isU8 (ti P e).desc = true) (vByt (byteL (xs.take len)) len K)
  | .ref l off len => grd (isU8 (ti P e).desc = true) (vObj ob l fun o => vByt (byteL ((o.cells.drop off).take len)) len K)
  | _ => False
def vConv (P : Program) (ob : Objs) (s d : AD) (x : V) (K : V → Prop) : Prop := match s, d, x with
  | .int _, .int k, .sc (.int _ n) => K (.sc (.int k (k.wrap n)))
  | .string, .string, .sc (.string b) => K (.sc (.string b))
  | .slice e, .string, x => vB2S P ob e x K
  | _, _, _ => False

def vLen (d : AD) (x : V) (K : V → Prop) : Prop := match d with
  | .slice _ => match x with
    | .sl len _ => K (.sc (.int .i64 len))
    | .ref _ _ len => K (.sc (.int .i64 len))
    | .sc (.slice _ n _) => K (.sc (.int .i64 n))
    | _ => False
  | .string => match x with
    | .sc (.string s) => K (.sc (.int .i64 s.size))
    | _ => False
  | .array n _ => K (.sc (.int .i64 n))
  | _ => False

/-- an interface's value -/
def vIfc (d : AD) (t : TypeId) (x : V) (K : V → Prop) : Prop := match d with
  | .slice _ => K (.ifc t x)
  | _ => False

/-! maps from numbers to scalars -/
def mpI (m : List (Int × Value)) : List V := .junk :: m.flatMap fun e => [V.sc (.int .i64 e.1), V.sc e.2]
def mapOfR : List V → Option (List (Int × Value))
  | [] => some []
  | .sc (.int .i64 k) :: .sc v :: r => (mapOfR r).map ((k, v) :: ·)
  | _ => none
def mapOf : List V → Option (List (Int × Value))
  | .junk :: r => mapOfR r
  | _ => none
def vMapOf (cells : List V) (K : List (Int × Value) → Prop) : Prop := match mapOf cells with
  | some m => K m
  | none => False
def mget : List (Int × Value) → Int → Option Value
  | [], _ => none
  | e :: r, k => if k = e.1 then some e.2 else mget r k
def mput : List (Int × Value) → Int → Value → List (Int × Value)
  | [], k, v => [(k, v)]
  | e :: r, k, v => if k = e.1 then (k, v) :: r else e :: mput r k v
def mdel : List (Int × Value) → Int → List (Int × Value)
  | [], _ => []
  | e :: r, k => if k = e.1 then r else e :: mdel r k
/-- what a look-up gives -/
def lookV (c : Bool) (o : Option Value) (z : Value) : V := match c with
  | true => .tup [.sc (o.getD z), .sc (.bool o.isSome)]
  | false => .sc (o.getD z)
def zeroOf (P : Program) (t : TypeId) : Option Value := (P.info? t).bind (·.zero)
def vZero (o : Option Value) (K : Value → Prop) : Prop := match o with
  | some z => K z
  | none => False
def isI64 : AD → Bool
  | .int .i64 => true
  | _ => false
def vLook (P : Program) (d : AD) (x i : V) (c : Bool) (ob : Objs) (K : V → Prop) : Prop := match d, x, i with
  | .map kt et, .mp l, .sc (.int .i64 k) => grd (isI64 (ti P kt).desc = true) (vZero (zeroOf P et) fun z => vObj ob l fun o => vMapOf o.cells fun m => K (lookV c (mget m k) z))
  | _, _, _ => False
def vLenO (ob : Objs) (d : AD) (x : V) (K : V → Prop) : Prop := match d with
  | .map _ _ => match x with
    | .mp l => vObj ob l fun o => vMapOf o.cells fun m => K (.sc (.int .i64 m.length))
    | _ => False
  | d => vLen d x K

theorem mapOfR_spec : ∀ (r : List V) (m : List (Int × Value)), mapOfR r = some m → r = m.flatMap fun e => [V.sc (.int .i64 e.1), V.sc e.2]
  | [], m, h => by simp [mapOfR] at h; subst h; rfl
  | [x], m, h => by unfold mapOfR at h; split at h <;> simp_all
  | x :: y :: r, m, h => by
    unfold mapOfR at h
    split at h
    · rename_i e; cases e
    · rename_i k v r' e
      obtain ⟨rfl, rfl, rfl⟩ : x = V.sc (.int .i64 k) ∧ y = V.sc v ∧ r = r' := by simpa using e
      cases hm : mapOfR r with
      | none => simp [hm] at h
      | some m' =>
        simp only [hm, Option.map_some, Option.some.injEq] at h
        subst h
        have ih := mapOfR_spec r m' hm
        simp [← ih]
    · cases h
theorem mapOf_spec {cells : List V} {m : List (Int × Value)} (h : mapOf cells = some m) : cells = mpI m := by
  unfold mapOf at h
  split at h
  · rename_i r; rw [mapOfR_spec r m h]; rfl
  · cases h
theorem mapOfR_mpI : ∀ m : List (Int × Value), mapOfR (m.flatMap fun e => [V.sc (.int .i64 e.1), V.sc e.2]) = some m
  | [] => rfl
  | e :: r => by simp [mapOfR, mapOfR_mpI r]
theorem mapOf_mpI (m : List (Int × Value)) : mapOf (mpI m) = some m := mapOfR_mpI m
theorem vMapOf_of {cells : List V} {K : List (Int × Value) → Prop} (h : vMapOf cells K) : ∃ m, cells = mpI m ∧ K m := by
  unfold vMapOf at h
  cases hm : mapOf cells with
  | none => simp [hm] at h
  | some m => simp only [hm] at h; exact ⟨m, mapOf_spec hm, h⟩
theorem mpI_es : ∀ (l : List MapEntry) (m : List (Int × Value)), (m.flatMap fun e => [V.sc (.int .i64 e.1), V.sc e.2]) = (l.flatMap fun e => [V.sc e.key, V.sc e.val]) → l.map (fun e => (e.key, e.val)) = m.map fun e => (Value.int .i64 e.1, e.2)
  | [], [], _ => rfl
  | [], e :: m, h => by simp at h
  | e :: l, [], h => by simp at h
  | e :: l, q :: m, h => by
    simp only [List.flatMap_cons, List.cons_append, List.nil_append, List.cons.injEq, V.sc.injEq] at h
    obtain ⟨h1, h2, h3⟩ := h
    simp [h1, h2, mpI_es l m h3]
theorem es_mpI : ∀ (l : List MapEntry) (m : List (Int × Value)), l.map (fun e => (e.key, e.val)) = (m.map fun e => (Value.int .i64 e.1, e.2)) → (l.flatMap fun e => [V.sc e.key, V.sc e.val]) = m.flatMap fun e => [V.sc (.int .i64 e.1), V.sc e.2]
  | [], [], _ => rfl
  | [], e :: m, h => by simp at h
  | e :: l, [], h => by simp at h
  | e :: l, q :: m, h => by
    simp only [List.map_cons, List.cons.injEq, Prod.mk.injEq] at h
    simp [h.1.1, h.1.2, es_mpI l m h.2]

def vMin2 (x y : V) (K : V → Prop) : Prop := match x, y with
  | .sc (.int k a), .sc (.int k' b) => K (.sc (.int k (if b < a then b else a)))
  | _, _ => False
def vMax2 (x y : V) (K : V → Prop) : Prop := match x, y with
  | .sc (.int k a), .sc (.int k' b) => K (.sc (.int k (if b > a then b else a)))
  | _, _ => False

def vFold (f : V → V → (V → Prop) → Prop) (x : V) : List V → (V → Prop) → Prop
  | [], K => K x
  | y :: r, K => f x y fun z => vFold f z r K

/-- the operations that only read -/
def qop (P : Program) (s : AState) (op : Op) (K : V → Prop) : Prop :=
  match op with
  | .move x => K (s.ev x)
  | .assign x => K (s.ev x)
  | .pick c a b => vPick (s.ev c) (s.ev a) (s.ev b) K
  | .load t a => vLoad (ti P t) (s.ev a) s.ob K
  | .nilCheck x => vNil (s.ev x) K
  | .binOp op t x y _ => vBin2 P t op (s.ev x) (s.ev y) K
  | .unOp op _ x => vUn op (s.ev x) K
  | .convert a b x => vConv P s.ob (ti P a).desc (ti P b).desc (s.ev x) K
  | .fieldAddr t x f => vFieldAddr P (ti P t).desc (s.ev x) f K
  | .field t x f => vField P (ti P t).desc (s.ev x) f K
  | .indexAddr t x i => vIdxAddr P (ti P t).desc (s.ev x) (s.ev i) K
  | .index t x i => vIdx P (ti P t).desc (s.ev x) (s.ev i) K
  | .slice t x lo hi none => vSlice P s.ob (ti P t).desc (s.ev x) (lo.map s.ev) (hi.map s.ev) K
  | .extract x i => vExtract (s.ev x) i K
  | .makeFunc (.func f) first caps => grd (first = #[]) (K (.fn f (caps.toList.map s.ev)))
  | .call { callee := .builtin .len, args, argTypes } => match args.toList, argTypes.toList with
    | [x], [t] => vLenO s.ob (ti P t).desc (s.ev x) K
    | _, _ => False
  | .call { callee := .builtin .min, args, argTypes := _ } => match args.toList with
    | x :: r => vFold vMin2 (s.ev x) (r.map s.ev) K
    | [] => False
  | .call { callee := .builtin .max, args, argTypes := _ } => match args.toList with
    | x :: r => vFold vMax2 (s.ev x) (r.map s.ev) K
    | [] => False
  | .makeInterface t x => vIfc (ti P t).desc t (s.ev x) K
  | .lookup t x i c => vLook P (ti P t).desc (s.ev x) (s.ev i) c s.ob K
  | _ => False

/-! ### what the program's tables say -/

theorem ti_ok {P : Program} {t : TypeId} (h : (ti P t).ok = true) : ∃ i d, P.info? t = some i ∧ P.underlying t = some d ∧ (ti P t).desc = adOf d ∧ (ti P t).size = i.size ∧ (ti P t).bytes = i.bytes ∧
    (ti P t).zero = match i.zero with | some z => z.cells.toList | none => [] := by
  unfold ti at *
  cases hi : P.info? t with
  | none => simp [hi] at h
  | some i =>
    cases hu : P.underlying t with
    | none => simp [hi, hu] at h
    | some d =>
      cases hb : Nat.beq i.size mapSz with
      | true => simp [hi, hu, hb] at h
      | false => refine ⟨i, d, rfl, rfl, ?_, ?_, ?_, ?_⟩ <;> simp only [hb]
theorem ti_ne {P : Program} {t : TypeId} (h : (ti P t).ok = true) : (ti P t).size ≠ mapSz := by
  unfold ti at *
  cases hi : P.info? t with
  | none => simp [hi] at h
  | some i =>
    cases hu : P.underlying t with
    | none => simp [hi, hu] at h
    | some d =>
      cases hb : Nat.beq i.size mapSz with
      | true => simp [hi, hu, hb] at h
      | false =>
        simp only [hb]
        intro e
        rw [e, Nat.beq_refl] at hb
        cases hb

theorem ti_desc {P : Program} {t : TypeId} (h : (ti P t).desc ≠ .other) : (ti P t).ok = true := by
  unfold ti at *
  cases hi : P.info? t with
  | none => simp [hi] at h
  | some i =>
    cases hu : P.underlying t with
    | none => simp [hi, hu] at h
    | some d =>
      cases hb : Nat.beq i.size mapSz with
      | true => simp [hi, hu, hb] at h
      | false => simp only [hb]

theorem ti_slice {P : Program} {t e : TypeId} (h : (ti P t).desc = .slice e) : P.underlying t = some (.slice e) := by
  obtain ⟨i, d, _, hu, hd, _⟩ := ti_ok (P := P) (t := t) (ti_desc (by rw [h]; simp))
  rw [h] at hd
  cases d <;> simp [adOf] at hd; subst hd; exact hu
theorem ti_string {P : Program} {t : TypeId} (h : (ti P t).desc = .string) : P.underlying t = some .string := by
  obtain ⟨i, d, _, hu, hd, _⟩ := ti_ok (P := P) (t := t) (ti_desc (by rw [h]; simp))
  rw [h] at hd
  cases d <;> simp [adOf] at hd; exact hu
theorem ti_map {P : Program} {t k e : TypeId} (h : (ti P t).desc = .map k e) : P.underlying t = some (.map k e) := by
  obtain ⟨i, d, _, hu, hd, _⟩ := ti_ok (P := P) (t := t) (ti_desc (by rw [h]; simp))
  rw [h] at hd
  cases d <;> simp [adOf] at hd; obtain ⟨rfl, rfl⟩ := hd; exact hu
theorem ti_i64 {P : Program} {t : TypeId} (h : isI64 (ti P t).desc = true) : P.underlying t = some (.int .i64) := by
  obtain ⟨i, d, _, hu, hd, _⟩ := ti_ok (P := P) (t := t) (ti_desc (by intro e; rw [e] at h; cases h))
  rw [hd] at h
  cases d <;> simp [adOf, isI64] at h
  rename_i k; cases k <;> simp at h; exact hu
theorem ti_bool {P : Program} {t : TypeId} (h : (ti P t).desc = .bool) : P.underlying t = some .bool := by
  obtain ⟨i, d, _, hu, hd, _⟩ := ti_ok (P := P) (t := t) (ti_desc (by rw [h]; simp))
  rw [h] at hd
  cases d <;> simp [adOf] at hd; exact hu
theorem ti_int {P : Program} {t : TypeId} {k : IntKind} (h : (ti P t).desc = .int k) : P.underlying t = some (.int k) := by
  obtain ⟨i, d, _, hu, hd, _⟩ := ti_ok (P := P) (t := t) (ti_desc (by rw [h]; simp))
  rw [h] at hd
  cases d <;> simp [adOf] at hd; subst hd; exact hu
theorem ti_array {P : Program} {t : TypeId} {n : Nat} {e : TypeId} (h : (ti P t).desc = .array n e) : P.underlying t = some (.array n e) := by
  obtain ⟨i, d, _, hu, hd, _⟩ := ti_ok (P := P) (t := t) (ti_desc (by rw [h]; simp))
  rw [h] at hd
  cases d <;> simp [adOf] at hd; obtain ⟨rfl, rfl⟩ := hd; exact hu
theorem ti_struct {P : Program} {t : TypeId} {fs : List (Nat × TypeId)} (h : (ti P t).desc = .struct fs) :
    ∃ fields, P.underlying t = some (.struct fields) ∧ fs = fields.toList.map fun f => (f.offset, f.type) := by
  obtain ⟨i, d, _, hu, hd, _⟩ := ti_ok (P := P) (t := t) (ti_desc (by rw [h]; simp))
  rw [h] at hd
  cases d <;> simp [adOf] at hd; exact ⟨_, hu, hd⟩

theorem run_sizeOf_ti {P : Program} {t : TypeId} (h : (ti P t).ok = true) (w : World) : (sizeOf t).run P w = .ok (ti P t).size w := by
  obtain ⟨i, d, hi, hu, hd, hs, _⟩ := ti_ok h
  rw [hs]
  simp [sizeOf, typeInfo, hi]

theorem run_isAgg_ti {P : Program} {t : TypeId} (h : (ti P t).ok = true) (w : World) : (isAgg t).run P w = .ok (ti P t).desc.agg w := by
  obtain ⟨i, d, hi, hu, hd, _⟩ := ti_ok h
  rw [hd]
  simp only [isAgg, Sem.run_bind, run_underlying hu, Result.andThen_ok]
  cases d <;> simp [adOf, AD.agg]

end Go.AG

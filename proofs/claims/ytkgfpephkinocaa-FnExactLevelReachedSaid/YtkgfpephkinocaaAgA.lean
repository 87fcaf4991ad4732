/-
  AG, part A: abstract values, abstract states, and what it means that a world and a frame fit an abstract state; no program in sight. Conditions: none.
-/
import Derived.Laws.AppendOwn
import Derived.Laws.OwnMore
import Derived.Laws.MakeOwn
import Derived.Laws.NewBlocks
import Derived.Deep.Quiet
import Derived.Below
namespace Go.AG

/-- abstract values -/
inductive V where
  | sc (v : Value)
  | sl (len : Nat) (xs : List V)
  | ip (xs : List V) (off : Nat)
  | fn (f : FuncId) (caps : List V)
  | ref (l off len : Nat)
  | ptr (l off : Nat)
  | agg (xs : List V)
  | tup (xs : List V)
  | junk
  deriving Inhabited

structure Ob where
  esz : Nat
  cells : List V

abbrev Objs := List (Option Ob)

/-- the place of an owned object -/
structure Pl where
  blk : Nat
  base : Nat
  size : Nat

def Live (ob : Objs) (l : Nat) (o : Ob) : Prop := ob[l]? = some (some o)

def ownB (ρ : Nat → Pl) (ob : Objs) (b : Nat) : Prop := ∃ l o, Live ob l o ∧ (ρ l).blk = b

inductive RepD (w : World) (X : Nat → Prop) : Value → V → Prop
  | sc (v : Value) : RepD w X v (.sc v)
  | nil : RepD w X (.slice none 0 0) (.sl 0 [])
  | sl0 (a : Addr) : RepD w X (.slice (some a) 0 0) (.sl 0 [])
  | sl {b o len cap : Nat} {xs : List V} (cs : Nat → Value) (hc : ∀ i, i < xs.length → w.cell? ⟨b, o + i, none⟩ = some (cs i))
      (hr : ∀ i (h : i < xs.length), RepD w X (cs i) xs[i]) (hx : xs ≠ [] → ¬ X b) (hl : len ≤ cap) : RepD w X (.slice (some ⟨b, o, none⟩) len cap) (.sl len xs)
  | ip {b o off : Nat} {xs : List V} (cs : Nat → Value) (hc : ∀ i, i < xs.length → w.cell? ⟨b, o + i, none⟩ = some (cs i))
      (hr : ∀ i (h : i < xs.length), RepD w X (cs i) xs[i]) (hx : xs ≠ [] → ¬ X b) : RepD w X (.pointer (some ⟨b, o + off, none⟩)) (.ip xs off)
  | fn {f : FuncId} {cs : Array Value} {caps : List V} (hs : cs.size = caps.length) (hr : ∀ i (h : i < caps.length), RepD w X (cs.getD i undef) caps[i]) :
      RepD w X (.func (.func f) #[] cs) (.fn f caps)

inductive RepC (w : World) (Y : Nat → Prop) (ρ : Nat → Pl) (ob : Objs) : Value → V → Prop
  | d {v : Value} {x : V} (h : RepD w Y v x) : RepC w Y ρ ob v x
  | ref {l off len cap : Nat} {o : Ob} (ho : Live ob l o) (hl : len ≤ cap) (hc : cap ≤ maxLen) (hs : (ρ l).base + off + cap * o.esz ≤ (ρ l).size) :
      RepC w Y ρ ob (.slice (some ⟨(ρ l).blk, (ρ l).base + off, none⟩) len cap) (.ref l off len)
  | ref0 {l off : Nat} {o : Ob} {p : Nat} (ho : Live ob l o) : RepC w Y ρ ob (.slice (some ⟨(ρ l).blk, p, none⟩) 0 0) (.ref l off 0)
  | ptr {l off : Nat} {o : Ob} (ho : Live ob l o) : RepC w Y ρ ob (.pointer (some ⟨(ρ l).blk, (ρ l).base + off, none⟩)) (.ptr l off)
  | fn {f : FuncId} {cs : Array Value} {caps : List V} (hs : cs.size = caps.length) (hr : ∀ i (h : i < caps.length), RepC w Y ρ ob (cs.getD i undef) caps[i]) :
      RepC w Y ρ ob (.func (.func f) #[] cs) (.fn f caps)
  | agg {cs : Array Value} {xs : List V} (hs : cs.size = xs.length) (hr : ∀ i (h : i < xs.length), RepC w Y ρ ob (cs.getD i undef) xs[i]) :
      RepC w Y ρ ob (.agg cs) (.agg xs)
  | tup {cs : Array Value} {xs : List V} (hs : cs.size = xs.length) (hr : ∀ i (h : i < xs.length), RepC w Y ρ ob (cs.getD i undef) xs[i]) :
      RepC w Y ρ ob (.tuple cs) (.tup xs)
  | junk {v : Value} : RepC w Y ρ ob v .junk

theorem RepD.mono {w w' : World} {X X' : Nat → Prop} {v : Value} {x : V} (h : RepD w X v x)
    (hc : ∀ a c, ¬ X a.block → w.cell? a = some c → w'.cell? a = some c) (hX : ∀ b, b < w.heap.size → X' b → X b) : RepD w' X' v x := by
  induction h with
  | sc v => exact .sc v
  | nil => exact .nil
  | sl0 a => exact .sl0 a
  | @sl b o len cap xs cs h1 hr hx hl ih =>
    refine .sl cs (fun i hi => ?_) ih (fun hne hb => ?_) hl
    · exact hc _ _ (hx (fun e => by simp [e] at hi)) (h1 i hi)
    · have hp : 0 < xs.length := List.length_pos_iff.2 hne
      have := World.block_lt_of_cell? w _ (h1 0 hp)
      exact hx hne (hX _ this hb)
  | @ip b o off xs cs h1 hr hx ih =>
    refine .ip cs (fun i hi => ?_) ih (fun hne hb => ?_)
    · exact hc _ _ (hx (fun e => by simp [e] at hi)) (h1 i hi)
    · have hp : 0 < xs.length := List.length_pos_iff.2 hne
      have := World.block_lt_of_cell? w _ (h1 0 hp)
      exact hx hne (hX _ this hb)
  | fn hs _ ih => exact .fn hs ih

/- objects that go: what pointed to them is junk -/
mutual
def V.kill (p : Nat → Bool) : V → V
  | .ref l off len => bif p l then .junk else .ref l off len
  | .ptr l off => bif p l then .junk else .ptr l off
  | .fn f caps => .fn f (V.killL p caps)
  | .agg xs => .agg (V.killL p xs)
  | .tup xs => .tup (V.killL p xs)
  | .sc v => .sc v
  | .sl len xs => .sl len xs
  | .ip xs off => .ip xs off
  | .junk => .junk
def V.killL (p : Nat → Bool) : List V → List V
  | [] => []
  | x :: xs => V.kill p x :: V.killL p xs
end

theorem killL_eq (p : Nat → Bool) (xs : List V) : V.killL p xs = xs.map (V.kill p) := by
  induction xs with
  | nil => simp [V.killL]
  | cons x xs ih => simp [V.killL, ih]

/-- a deep immutable value does not feel a kill -/
theorem RepD.kill {w : World} {X : Nat → Prop} {v : Value} {x : V} (h : RepD w X v x) (p : Nat → Bool) : x.kill p = x := by
  induction h with
  | sc v => rfl
  | nil => rfl
  | sl0 => rfl
  | sl => rfl
  | ip => rfl
  | @fn f cs caps hs hr ih =>
    simp only [V.kill, killL_eq]
    congr 1
    apply List.ext_getElem (by simp)
    intro i h1 h2
    simp only [List.getElem_map]
    exact ih i h2

theorem RepC.mono {w w' : World} {Y Y' : Nat → Prop} {ρ ρ' : Nat → Pl} {ob ob' : Objs} {v : Value} {x : V} (h : RepC w Y ρ ob v x)
    (hc : ∀ a c, ¬ Y a.block → w.cell? a = some c → w'.cell? a = some c) (hY : ∀ b, b < w.heap.size → Y' b → Y b) (p : Nat → Bool)
    (hob : ∀ l o, p l = false → Live ob l o → ∃ o', Live ob' l o' ∧ o'.esz = o.esz ∧ ρ' l = ρ l) : RepC w' Y' ρ' ob' v (x.kill p) := by
  induction h with
  | d h => rw [h.kill]; exact .d (h.mono hc hY)
  | @ref l off len cap o ho hl hc hs =>
    cases hp : p l with
    | true => simp only [V.kill, hp, cond_true]; exact .junk
    | false =>
      simp only [V.kill, hp, cond_false]
      obtain ⟨o', h1, h2, h3⟩ := hob l o hp ho
      rw [← h3]
      exact .ref h1 hl hc (by rw [h3, h2]; exact hs)
  | @ref0 l off o p' ho =>
    cases hp : p l with
    | true => simp only [V.kill, hp, cond_true]; exact .junk
    | false =>
      simp only [V.kill, hp, cond_false]
      obtain ⟨o', h1, h2, h3⟩ := hob l o hp ho
      rw [← h3]
      exact .ref0 h1
  | @ptr l off o ho =>
    cases hp : p l with
    | true => simp only [V.kill, hp, cond_true]; exact .junk
    | false =>
      simp only [V.kill, hp, cond_false]
      obtain ⟨o', h1, h2, h3⟩ := hob l o hp ho
      rw [← h3]
      exact .ptr h1
  | @fn f cs caps hs hr ih =>
    simp only [V.kill, killL_eq]
    exact .fn (by simpa using hs) (fun i hi => by simpa using ih i (by simpa using hi))
  | @agg cs xs hs hr ih =>
    simp only [V.kill, killL_eq]
    exact .agg (by simpa using hs) (fun i hi => by simpa using ih i (by simpa using hi))
  | @tup cs xs hs hr ih =>
    simp only [V.kill, killL_eq]
    exact .tup (by simpa using hs) (fun i hi => by simpa using ih i (by simpa using hi))
  | junk => exact .junk

theorem RepC.mono' {w w' : World} {Y Y' : Nat → Prop} {ρ ρ' : Nat → Pl} {ob ob' : Objs} {v : Value} {x : V} (h : RepC w Y ρ ob v x)
    (hc : ∀ a c, ¬ Y a.block → w.cell? a = some c → w'.cell? a = some c) (hY : ∀ b, b < w.heap.size → Y' b → Y b)
    (hob : ∀ l o, Live ob l o → ∃ o', Live ob' l o' ∧ o'.esz = o.esz ∧ ρ' l = ρ l) : RepC w' Y' ρ' ob' v x := by
  induction h with
  | d h => exact .d (h.mono hc hY)
  | @ref l off len cap o ho hl hc hs =>
    obtain ⟨o', h1, h2, h3⟩ := hob l o ho
    rw [← h3]
    exact .ref h1 hl hc (by rw [h3, h2]; exact hs)
  | @ref0 l off o p' ho =>
    obtain ⟨o', h1, h2, h3⟩ := hob l o ho
    rw [← h3]
    exact .ref0 h1
  | @ptr l off o ho =>
    obtain ⟨o', h1, h2, h3⟩ := hob l o ho
    rw [← h3]
    exact .ptr h1
  | fn hs hr ih => exact .fn hs ih
  | agg hs hr ih => exact .agg hs ih
  | tup hs hr ih => exact .tup hs ih
  | junk => exact .junk

/-- what is given to a function -/
structure Fr where
  W : World
  X : Nat → Prop
  io : Nat → Prop
  k : Nat
  ρ0 : Nat → Pl

def Fr.Y (F : Fr) (ρ : Nat → Pl) (ob : Objs) (b : Nat) : Prop := F.X b ∨ ownB ρ ob b

structure ObOk (w : World) (Y : Nat → Prop) (ρ : Nat → Pl) (ob : Objs) (p : Pl) (o : Ob) : Prop where
  row : ∃ cur e, w.heap[p.blk]? = some (.cells cur e (0, 0)) ∧ cur.size = p.size
  fit : p.base + o.cells.length ≤ p.size
  cell : ∀ i (h : i < o.cells.length), ∃ c, w.cell? ⟨p.blk, p.base + i, none⟩ = some c ∧ RepC w Y ρ ob c o.cells[i] ∧ c.oneCell' = true

structure HOk (F : Fr) (w : World) (ρ : Nat → Pl) (ob : Objs) : Prop where
  os : w.os = F.W.os
  tape : w.tape = F.W.tape
  output : w.output = F.W.output
  size : F.W.heap.size ≤ w.heap.size
  frame : ∀ b, b < F.W.heap.size → ¬ F.io b → w.heap[b]? = F.W.heap[b]?
  xlt : ∀ b, F.X b → b < F.W.heap.size ∧ ¬ F.io b
  obj : ∀ l o, Live ob l o → ObOk w (F.Y ρ ob) ρ ob (ρ l) o
  fresh : ∀ l o, Live ob l o → (F.io (ρ l).blk ∧ l < F.k) ∨ F.W.heap.size ≤ (ρ l).blk
  inj : ∀ l l' o o', Live ob l o → Live ob l' o' → (ρ l).blk = (ρ l').blk → l = l'
  stay : ∀ l o, l < F.k → Live ob l o → ρ l = F.ρ0 l

structure AState where
  n : Nat
  k : Nat
  sl : List (Nat × V)
  ob : Objs

def lk (t : Nat) : List (Nat × V) → V
  | [] => .junk
  | p :: r => bif Nat.beq p.1 t then p.2 else lk t r

def AState.get (s : AState) (t : Nat) : V := lk t s.sl

def AState.ev (s : AState) : Operand → V
  | .tmp t => s.get t
  | .const v => .sc v
  | .func f => .fn f []
  | .global _ => .junk

def AState.put (s : AState) (d : Option Nat) (x : V) : AState :=
  match d with
  | some t => { s with sl := (t, x) :: s.sl }
  | none => s

structure Sat (F : Fr) (s : AState) (ρ : Nat → Pl) (a : Act) (w : World) : Prop where
  heap : HOk F w ρ s.ob
  dfs : a.defers = []
  size : a.tmps.size = s.n
  k : s.k = F.k
  kle : F.k ≤ s.ob.length
  slot : ∀ t, RepC w (F.Y ρ s.ob) ρ s.ob (a.tmps.getD t undef) (s.get t)

theorem Sat.ev {F : Fr} {s : AState} {ρ : Nat → Pl} {a : Act} {w : World} (h : Sat F s ρ a w) (x : Operand) : RepC w (F.Y ρ s.ob) ρ s.ob (a.eval x) (s.ev x) := by
  cases x with
  | tmp t => exact h.slot t
  | const v => exact .d (.sc v)
  | global g => exact .junk
  | func f => exact .fn rfl (fun i hi => absurd hi (by simp))

theorem get_put (s : AState) (t : Nat) (x : V) (u : Nat) : (s.put (some t) x).get u = if t = u then x else s.get u := by
  simp only [AState.put, AState.get, lk]
  by_cases h : t = u
  · subst h; simp
  · rw [if_neg h]
    have : Nat.beq t u = false := by
      cases hb : Nat.beq t u with
      | false => rfl
      | true => exact absurd (Nat.eq_of_beq_eq_true hb) h
    simp [this]

theorem Sat.put {F : Fr} {s : AState} {ρ : Nat → Pl} {a : Act} {w : World} (h : Sat F s ρ a w) {d : Option Nat} {v : Value} {x : V} (hd : ∀ t, d = some t → t < s.n)
    (hv : RepC w (F.Y ρ s.ob) ρ s.ob v x) : Sat F (s.put d x) ρ (a.put d v) w := by
  cases d with
  | none => exact h
  | some t =>
    have ht := hd t rfl
    refine ⟨h.heap, h.dfs, by simp [Act.put, AState.put, h.size], h.k, h.kle, fun u => ?_⟩
    rw [get_put]
    simp only [Act.put]
    by_cases e : t = u
    · subst e
      rw [if_pos rfl]
      have : (a.tmps.setIfInBounds t v).getD t undef = v := by
        simp [Array.getD_eq_getD_getElem?, h.size, ht]
      rw [this]
      exact hv
    · rw [if_neg e]
      have : (a.tmps.setIfInBounds t v).getD u undef = a.tmps.getD u undef := by
        simp [Array.getD_eq_getD_getElem?, e]
      rw [this]
      exact h.slot u

/-- the same state in a world that has grown -/
theorem HOk.grow {F : Fr} {w w' : World} {ρ : Nat → Pl} {ob : Objs} (h : HOk F w ρ ob) (hb : RowKit.Below w.heap.size w w') : HOk F w' ρ ob where
  os := hb.os.trans h.os
  tape := hb.tape.trans h.tape
  output := hb.output.trans h.output
  size := Nat.le_trans h.size hb.size
  frame := fun b hlt hio => (hb.block b (Nat.lt_of_lt_of_le hlt h.size)).trans (h.frame b hlt hio)
  xlt := h.xlt
  obj := fun l o ho => by
    obtain ⟨⟨cur, e, hr, hs⟩, hf, hc⟩ := h.obj l o ho
    have hlt : (ρ l).blk < w.heap.size := by
      rcases Nat.lt_or_ge (ρ l).blk w.heap.size with h' | h'
      · exact h'
      · simp [Array.getElem?_eq_none h'] at hr
    refine ⟨⟨cur, e, (hb.block _ hlt).trans hr, hs⟩, hf, fun i hi => ?_⟩
    obtain ⟨c, h1, h2, h3⟩ := hc i hi
    refine ⟨c, (hb.cell (p := ⟨(ρ l).blk, (ρ l).base + i, none⟩) hlt).trans h1, ?_, h3⟩
    exact h2.mono' (fun a c _ hc => (hb.cell (World.block_lt_of_cell? w a hc)).trans hc) (fun b _ h => h) (fun l o h => ⟨o, h, rfl, rfl⟩)
  fresh := h.fresh
  inj := h.inj
  stay := h.stay

theorem RepC.grow {w w' : World} {Y : Nat → Prop} {ρ : Nat → Pl} {ob : Objs} {v : Value} {x : V} (h : RepC w Y ρ ob v x) (hb : RowKit.Below w.heap.size w w') : RepC w' Y ρ ob v x :=
  h.mono' (fun a _ _ hc => (hb.cell (World.block_lt_of_cell? w a hc)).trans hc) (fun _ _ h => h) (fun _ o h => ⟨o, h, rfl, rfl⟩)

theorem Sat.grow {F : Fr} {s : AState} {ρ : Nat → Pl} {a : Act} {w w' : World} (h : Sat F s ρ a w) (hb : RowKit.Below w.heap.size w w') : Sat F s ρ a w' :=
  ⟨h.heap.grow hb, h.dfs, h.size, h.k, h.kle, fun t => (h.slot t).grow hb⟩

end Go.AG

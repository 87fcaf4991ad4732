/-
  AG, merged parts H I. Conditions: none.
-/
import Derived.Test.YtjgjnedenapemaaGreatDoorAgG
import Derived.Deep.AppendSrc
/-
  AG, part H: the operations that make or write memory, in one theorem. Conditions: none.
-/
set_option linter.unusedSimpArgs false
set_option linter.unusedVariables false
namespace Go.AG
open Go.RowKit

def okD : Option Nat → Nat → Prop
  | none, _ => True
  | some t, n => t < n

/-- a result into its slot, then the rest -/
def fin (d : Option Nat) (K : AState → Prop) (s : AState) (x : V) : Prop := grd (okD d s.n) (K (s.put d x))

def AState.add (s : AState) (o : Ob) : AState := { s with ob := s.ob ++ [some o] }

/-- the cells that an append takes -/
def vNews (ob : Objs) (size : Nat) (y : V) (K : Nat → List V → Prop) : Prop := match y with
  | .sl m xs => grd (xs.length = m * size ∧ V.oneL xs = true) (K m xs)
  | .ref l off m => vObj ob l fun o => grd (o.esz = size ∧ off + m * size ≤ o.cells.length) (K m ((o.cells.drop off).take (m * size)))
  | .sc (.slice none 0 0) => K 0 []
  | _ => False

/-- the state behind an append to an owned object -/
def AState.grown (s : AState) (l : Nat) (esz : Nat) (cells : List V) : AState :=
  { s with sl := trS (V.kill (killB l)) s.sl, ob := (trO (V.kill (killB l)) s.ob).set l (some ⟨esz, V.killL (killB l) cells⟩) }

def vApp (t : TI) (s : AState) (x : V) (m : Nat) (news : List V) (d : Option Nat) (K : AState → Prop) : Prop :=
    match x with
    | .ref l off len => grd (s.k ≤ l) (vObj s.ob l fun o =>
        grd (o.esz = t.size ∧ off + len * t.size ≤ o.cells.length) (grd ((len + m) * t.bytes ≤ 140737488355328 ∧ len + m ≤ 9223372036854775807)
          (fin d K (s.grown l t.size ((o.cells.drop off).take (len * t.size) ++ news)) (.ref l 0 (len + m)))))
    | .sc (.slice none 0 0) => grd (s.k ≤ s.ob.length ∧ 1 ≤ m) (grd (m * t.bytes ≤ 140737488355328 ∧ m ≤ 9223372036854775807)
          (fin d K (s.add ⟨t.size, news⟩) (.ref s.ob.length 0 m)))
    | _ => False

def vAppend (t : TI) (s : AState) (x y : V) (d : Option Nat) (K : AState → Prop) : Prop :=
  grd (t.ok = true ∧ t.zero.length = t.size ∧ 0 < t.size) (vNews s.ob t.size y fun m news => vApp t s x m news d K)

/-- append, by its slice type -/
def vAppD (P : Program) (a : AD) (s : AState) (x y : V) (d : Option Nat) (K : AState → Prop) : Prop := match a with
  | .slice e => vAppend (ti P e) s x y d K
  | _ => False

/-- the bytes of a text, as cells -/
def strB (z : ByteArray) : List V := z.data.toList.map fun b => V.sc (.int .u8 b.toNat)
theorem length_strB (z : ByteArray) : (strB z).length = z.size := by simp [strB]
theorem oneL_strB (z : ByteArray) : V.oneL (strB z) = true := by
  unfold strB
  induction z.data.toList with
  | nil => rfl
  | cons c r ih => rw [List.map_cons, V.oneL, ih]; rfl
/-- append of a text to bytes -/
def vAppT (t : TI) (s : AState) (x y : V) (d : Option Nat) (K : AState → Prop) : Prop := match y with
  | .sc (.string z) => grd (t.ok = true ∧ t.zero.length = t.size ∧ t.size = 1) (vApp t s x z.size (strB z) d K)
  | _ => False
def vAppS (P : Program) (a u : AD) (s : AState) (x y : V) (d : Option Nat) (K : AState → Prop) : Prop := match a, u with
  | .slice e, .string => vAppT (ti P e) s x y d K
  | _, _ => False

/-- a new slice of some values, its element's table row at hand -/
def vMkRow (t : TI) (s : AState) (len : Nat) (parts : List (Nat × V)) (d : Option Nat) (K : AState → Prop) : Prop :=
  grd (t.ok = true ∧ t.zero.length = t.size ∧ 0 < t.size ∧ t.zero.all Value.oneCell' = true ∧ len * t.size ≤ 16777216 ∧ s.k ≤ s.ob.length)
    (vFill (fun i => some (i * t.size, t.size)) (reps len (zerosOf t)) parts fun cells => fin d K (s.add ⟨t.size, cells⟩) (.ref s.ob.length 0 len))
def vMkD (P : Program) (a : AD) (s : AState) (len : Nat) (parts : List (Nat × V)) (d : Option Nat) (K : AState → Prop) : Prop := match a with
  | .slice e => vMkRow (ti P e) s len parts d K
  | _ => False

/-- make -/
def vMake (t : TI) (s : AState) (l c : V) (d : Option Nat) (K : AState → Prop) : Prop := match l, c with
  | .sc (.int _ l), .sc (.int _ c) => grd (t.ok = true ∧ t.zero.length = t.size ∧ 0 < t.size ∧ t.zero.all Value.oneCell' = true ∧ s.k ≤ s.ob.length)
        (grd (0 ≤ l ∧ l ≤ c ∧ (t.bytes : Int) * c ≤ 140737488355328 ∧ c ≤ 9223372036854775807) (fin d K (s.add ⟨t.size, reps l.toNat (zerosOf t)⟩) (.ref s.ob.length 0 l.toNat)))
  | _, _ => False
def vMakeD (P : Program) (a : AD) (s : AState) (l c : V) (d : Option Nat) (K : AState → Prop) : Prop := match a with
  | .slice e => vMake (ti P e) s l c d K
  | _ => False

/-- a struct or an array out of its parts -/
def vBuildD (P : Program) (t : TI) (s : AState) (parts : List (Nat × V)) (d : Option Nat) (K : AState → Prop) : Prop :=
  grd (t.ok = true ∧ t.zero ≠ [] ∧ t.zero.all Value.oneCell' = true) (match t.desc with
    | .struct fs => grd ((fs.all fun f => (ti P f.2).ok) = true) (vFill (fun i => (fs.map fun f => (f.1, (ti P f.2).size))[i]?) (zerosOf t) parts fun cells => fin d K s (.agg cells))
    | .array _ e => grd ((ti P e).ok = true) (vFill (fun i => some (i * (ti P e).size, (ti P e).size)) (zerosOf t) parts fun cells => fin d K s (.agg cells))
    | _ => False)

def vStore (s : AState) (t : TI) (p x : V) (K : AState → Prop) : Prop := match p with
  | .ptr l off => vObj s.ob l fun o => grd (t.ok = true ∧ (vcells x).length = t.size ∧ V.oneL (vcells x) = true ∧ off + (vcells x).length ≤ o.cells.length)
      (K { s with ob := s.ob.set l (some ⟨o.esz, wr o.cells off (vcells x)⟩) })
  | _ => False

/-! maps -/
def vMkMap (d : AD) (r : Option V) (K : Prop) : Prop := match d, r with
  | .map _ _, none => K
  | .map _ _, some (.sc (.int _ _)) => K
  | _, _ => False
def vMapPut (P : Program) (s : AState) (d : AD) (m k v : V) (K : AState → Prop) : Prop := match d, m, k, v with
  | .map kt _, .mp l, .sc (.int .i64 k), .sc v => grd (isI64 (ti P kt).desc = true) (vObj s.ob l fun o => vMapOf o.cells fun mm => K { s with ob := s.ob.set l (some ⟨o.esz, mpI (mput mm k v)⟩) })
  | _, _, _, _ => False
def vMapDel (P : Program) (s : AState) (d : AD) (m k : V) (K : AState → Prop) : Prop := match d, m, k with
  | .map kt _, .mp l, .sc (.int .i64 k) => grd (isI64 (ti P kt).desc = true) (vObj s.ob l fun o => vMapOf o.cells fun mm => K { s with ob := s.ob.set l (some ⟨o.esz, mpI (mdel mm k)⟩) })
  | _, _, _ => False

/-- the operations that make or write memory -/
def mop (P : Program) (s : AState) (o : Oper) (K : AState → Prop) : Prop :=
  match o.op with
  | .alloc t => grd ((ti P t).ok = true ∧ (ti P t).zero ≠ [] ∧ (ti P t).zero.all Value.oneCell' = true ∧ s.k ≤ s.ob.length)
      (fin o.dst K (s.add ⟨(ti P t).size, zerosOf (ti P t)⟩) (.ptr s.ob.length 0))
  | .box t x => grd (V.oneL (vcells (s.ev x)) = true ∧ s.k ≤ s.ob.length ∧ (vcells (s.ev x)).length ≠ 4294967291)
      (fin o.dst K (s.add ⟨(vcells (s.ev x)).length, vcells (s.ev x)⟩) (.ptr s.ob.length 0))
  | .buildSlice t len parts => vMkD P (ti P t).desc s len (parts.toList.map fun q => (q.1, s.ev q.2)) o.dst K
  | .makeSlice t l c => vMakeD P (ti P t).desc s (s.ev l) (s.ev c) o.dst K
  | .build t parts => vBuildD P (ti P t) s (parts.toList.map fun q => (q.1, s.ev q.2)) o.dst K
  | .store t p x => grd (o.dst = none) (vStore s (ti P t) (s.ev p) (s.ev x) K)
  | .call { callee := .builtin .append, args, argTypes } => match args.toList, argTypes.toList with
    | [x, y], [t, u] => if t = u then vAppD P (ti P t).desc s (s.ev x) (s.ev y) o.dst K else vAppS P (ti P t).desc (ti P u).desc s (s.ev x) (s.ev y) o.dst K
    | _, _ => False
  | .makeMap t r => vMkMap (ti P t).desc (r.map s.ev) (grd (s.k ≤ s.ob.length) (fin o.dst K (s.add ⟨4294967291, mpI []⟩) (.mp s.ob.length)))
  | .mapUpdate t m k v => grd (o.dst = none) (vMapPut P s (ti P t).desc (s.ev m) (s.ev k) (s.ev v) K)
  | .insert t m k v => grd (o.dst = none) (vMapPut P s (ti P t).desc (s.ev m) (s.ev k) (s.ev v) K)
  | .call { callee := .builtin .delete, args, argTypes } => match args.toList, argTypes.toList with
    | [m, k], [t, _] => vMapDel P s (ti P t).desc (s.ev m) (s.ev k) fun s' => fin o.dst K s' (.tup [])
    | _, _ => False
  | _ => False

section
variable {P : Program} {F : Fr} {s : AState} {ρ : Nat → Pl} {a : Act} {w : World}

/-- the objects that an operation writes -/
def wset (s : AState) : Op → List Nat
  | .store _ p _ => match s.ev p with
    | .ptr l _ => [l]
    | _ => []
  | .call { callee := .builtin .append, args, argTypes := _ } => match args.toList with
    | x :: _ => match s.ev x with
      | .ref l _ _ => [l]
      | _ => []
    | [] => []
  | .mapUpdate _ m _ _ => match s.ev m with
    | .mp l => [l]
    | _ => []
  | .insert _ m _ _ => match s.ev m with
    | .mp l => [l]
    | _ => []
  | .call { callee := .builtin .delete, args, argTypes := _ } => match args.toList with
    | x :: _ => match s.ev x with
      | .mp l => [l]
      | _ => []
    | [] => []
  | _ => []

/-- what else is so behind an operation that writes the objects W: all other blocks are as they were, and objects lie where they lay or in new blocks -/
structure Moved (W : List Nat) (s : AState) (ρ : Nat → Pl) (w : World) (s' : AState) (ρ' : Nat → Pl) (w' : World) : Prop where
  size : w.heap.size ≤ w'.heap.size
  keep : ∀ b, b < w.heap.size → (∀ l o, l ∈ W → Live s.ob l o → b ≠ (ρ l).blk) → w'.heap[b]? = w.heap[b]?
  own : ∀ l o', Live s'.ob l o' → (∃ o, Live s.ob l o ∧ (ρ' l).blk = (ρ l).blk) ∨ w.heap.size ≤ (ρ' l).blk

theorem put_ob (s : AState) (d : Option Nat) (x : V) : (s.put d x).ob = s.ob := by cases d <;> rfl

theorem Moved.put {W : List Nat} {s s' : AState} {ρ ρ' : Nat → Pl} {w w' : World} (h : Moved W s ρ w s' ρ' w') (d : Option Nat) (x : V) : Moved W s ρ w (s'.put d x) ρ' w' :=
  ⟨h.size, h.keep, fun l o' ho => h.own l o' (by rw [put_ob] at ho; exact ho)⟩
theorem moved_alloc {W : List Nat} (s : AState) (ρ : Nat → Pl) (w w2 : World) (h2 : w2.heap = w.heap) (o : Ob) (b : Obj) (sz : Nat) (d : Option Nat) (x : V) :
    Moved W s ρ w ((s.add o).put d x) (plNew ρ s.ob.length ⟨w2.heap.size, 0, sz⟩) (w2.alloc b) where
  size := by show w.heap.size ≤ (w2.heap.push b).size; rw [h2]; simp
  keep := fun k hk _ => by rw [Below.heap_alloc w2 b k (by rw [h2]; exact hk), h2]
  own := fun l o' ho => by
    rw [put_ob] at ho
    rcases live_snoc.1 ho with ho | ⟨rfl, _⟩
    · refine .inl ⟨o', ho, ?_⟩
      rw [plNew_other _ _ _ (fun e => by have := live_lt ho; omega)]
    · refine .inr ?_
      rw [plNew_same, h2]; exact Nat.le_refl _
theorem moved_id {W : List Nat} (s : AState) (ρ : Nat → Pl) (w : World) (d : Option Nat) (x : V) : Moved W s ρ w (s.put d x) ρ w where
  size := Nat.le_refl _
  keep := fun _ _ _ => rfl
  own := fun l o' ho => .inl ⟨o', by rw [put_ob] at ho; exact ho, rfl⟩

/-- what a step that touches memory gives -/
def Does (P : Program) (F : Fr) (s : AState) (ρ : Nat → Pl) (a : Act) (w : World) (o : Oper) (K : AState → Prop) : Prop :=
  ∃ (s' : AState) (ρ' : Nat → Pl) (w' : World) (v : Value), K s' ∧ Sat F s' ρ' (a.put o.dst v) w' ∧
    ((execOp a.eval o).run P w = .ok (.value v) w' ∨ ((execOp a.eval o).run P w = .ok .skip w' ∧ v = undef)) ∧ Moved (wset s o.op) s ρ w s' ρ' w'

theorem fin_sat {d : Option Nat} {K : AState → Prop} {x : V} {v : Value} (h : Sat F s ρ a w) (hf : fin d K s x) (hv : RepC w (F.Y ρ s.ob) ρ s.ob v x) : K (s.put d x) ∧ Sat F (s.put d x) ρ (a.put d v) w := by
  obtain ⟨h1, h2⟩ := hf
  refine ⟨h2, h.put (fun t e => ?_) hv⟩
  subst e
  exact h1

theorem zero_some {t : TypeId} (h : (ti P t).ok = true) (hz : (ti P t).zero ≠ []) : ∃ i z, P.info? t = some i ∧ i.zero = some z ∧ (ti P t).zero = z.cells.toList ∧ (ti P t).size = i.size ∧ (ti P t).bytes = i.bytes := by
  obtain ⟨i, d, hi, hu, hd, hs, hb, hz2⟩ := ti_ok h
  cases h0 : i.zero with
  | none => rw [h0] at hz2; exact absurd hz2 hz
  | some z => rw [h0] at hz2; exact ⟨i, z, hi, h0, hz2, hs, hb⟩

theorem Sat.newObj (h : Sat F s ρ a w) (hk : s.k ≤ s.ob.length) (cur : Array Value) (e : TypeId) (o : Ob) (hm : o.esz ≠ mapSz) (hfit : o.cells.length ≤ cur.size)
    (hrep : ∀ i (h : i < o.cells.length), RepC w (F.Y ρ s.ob) ρ s.ob (cur.getD i undef) o.cells[i] ∧ (cur.getD i undef).oneCell' = true) :
    Sat F (s.add o) (plNew ρ s.ob.length ⟨w.heap.size, 0, cur.size⟩) a (w.alloc (.cells cur e)) := by
  obtain ⟨h1, h2⟩ := h.heap.alloc (by rw [← h.k]; exact hk) cur e o hm hfit hrep
  exact h.of_heap_id h1 (by simp; exact Nat.le_succ_of_le h.kle) h2

theorem Sat.new_ptr {o : Ob} {cur : Array Value} (hm : o.esz ≠ mapSz) : RepC w (F.Y (plNew ρ s.ob.length ⟨w.heap.size, 0, cur.size⟩) (s.add o).ob) (plNew ρ s.ob.length ⟨w.heap.size, 0, cur.size⟩) (s.add o).ob (.pointer (some ⟨w.heap.size, 0, none⟩)) (.ptr s.ob.length 0) := by
  have := RepC.ptr (w := w) (Y := F.Y (plNew ρ s.ob.length ⟨w.heap.size, 0, cur.size⟩) (s.add o).ob) (ρ := plNew ρ s.ob.length ⟨w.heap.size, 0, cur.size⟩) (ob := (s.add o).ob) (l := s.ob.length) (off := 0) (o := o) (live_snoc.2 (.inr ⟨rfl, rfl⟩)) hm
  rwa [plNew_same] at this

theorem new_ptr' {w' : World} {o : Ob} {n sz : Nat} (hm : o.esz ≠ mapSz) : RepC w' (F.Y (plNew ρ s.ob.length ⟨n, 0, sz⟩) (s.add o).ob) (plNew ρ s.ob.length ⟨n, 0, sz⟩) (s.add o).ob (.pointer (some ⟨n, 0, none⟩)) (.ptr s.ob.length 0) := by
  have := RepC.ptr (w := w') (Y := F.Y (plNew ρ s.ob.length ⟨n, 0, sz⟩) (s.add o).ob) (ρ := plNew ρ s.ob.length ⟨n, 0, sz⟩) (ob := (s.add o).ob) (l := s.ob.length) (off := 0) (o := o) (live_snoc.2 (.inr ⟨rfl, rfl⟩)) hm
  rwa [plNew_same] at this

theorem new_ref' {w' : World} {o : Ob} {n sz len cap : Nat} (hm' : o.esz ≠ mapSz) (hl : len ≤ cap) (hm : cap ≤ maxLen) (hs : cap * o.esz ≤ sz) :
    RepC w' (F.Y (plNew ρ s.ob.length ⟨n, 0, sz⟩) (s.add o).ob) (plNew ρ s.ob.length ⟨n, 0, sz⟩) (s.add o).ob (.slice (some ⟨n, 0, none⟩) len cap) (.ref s.ob.length 0 len) := by
  have := RepC.ref (w := w') (Y := F.Y (plNew ρ s.ob.length ⟨n, 0, sz⟩) (s.add o).ob) (ρ := plNew ρ s.ob.length ⟨n, 0, sz⟩) (ob := (s.add o).ob) (l := s.ob.length) (off := 0) (o := o) (len := len) (cap := cap) (live_snoc.2 (.inr ⟨rfl, rfl⟩)) hm' hl hm
    (by rw [plNew_same]; simpa using hs)
  rwa [plNew_same] at this

/-! maps -/
theorem HOk.allocM {F : Fr} {w : World} {ρ : Nat → Pl} {ob : Objs} (h : HOk F w ρ ob) (hk : F.k ≤ ob.length) :
    HOk F (w.alloc (.map #[] 0)) (plNew ρ ob.length ⟨w.heap.size, 0, 0⟩) (ob ++ [some ⟨4294967291, mpI []⟩]) ∧
    (∀ v x, RepC w (F.Y ρ ob) ρ ob v x → RepC (w.alloc (.map #[] 0)) (F.Y (plNew ρ ob.length ⟨w.heap.size, 0, 0⟩) (ob ++ [some ⟨4294967291, mpI []⟩])) (plNew ρ ob.length ⟨w.heap.size, 0, 0⟩) (ob ++ [some ⟨4294967291, mpI []⟩]) v x) := by
  have hne : ∀ {l o'}, Live ob l o' → l ≠ ob.length := fun h e => by have := live_lt h; omega
  have hτ : ∀ v x, RepC w (F.Y ρ ob) ρ ob v x → RepC (w.alloc (.map #[] 0)) (F.Y (plNew ρ ob.length ⟨w.heap.size, 0, 0⟩) (ob ++ [some ⟨4294967291, mpI []⟩])) (plNew ρ ob.length ⟨w.heap.size, 0, 0⟩) (ob ++ [some ⟨4294967291, mpI []⟩]) v x := by
    intro v x hr
    refine hr.mono' (fun a c _ hc => ?_) (fun b hb => ?_) (fun l o' ho => ⟨o', live_snoc.2 (.inl ho), rfl, plNew_other _ _ _ (hne ho)⟩)
    · rw [World.cell?_alloc_lt _ _ _ (World.block_lt_of_cell? w a hc)]; exact hc
    · rintro (hx | ⟨l, o', ho, he⟩)
      · exact .inl hx
      · rcases live_snoc.1 ho with ho | ⟨e1, _⟩
        · rw [plNew_other _ _ _ (hne ho)] at he; exact .inr ⟨l, o', ho, he⟩
        · subst e1; rw [plNew_same] at he; simp at he; omega
  refine ⟨h.step id rfl rfl rfl (by simp) (fun b hb _ => Below.heap_alloc _ _ _ (Nat.lt_of_lt_of_le hb h.size)) hτ (fun l o' ho => ?_) (fun l l' o1 o2 h1 h2 he => ?_), hτ⟩
  · rcases live_snoc.1 ho with ho | ⟨rfl, e2⟩
    · refine .inl ⟨o', ho, by simp, plNew_other _ _ _ (hne ho), Below.heap_alloc _ _ _ (h.blk_lt ho)⟩
    · cases e2
      rw [plNew_same]
      exact .inr ⟨⟨fun hm => absurd rfl hm, fun _ => ⟨#[], 0, heap_alloc_new w _, rfl⟩⟩, .inr h.size, fun hl => by omega⟩
  · rcases live_snoc.1 h1 with h1 | ⟨rfl, _⟩ <;> rcases live_snoc.1 h2 with h2 | ⟨rfl, _⟩
    · rw [plNew_other _ _ _ (hne h1), plNew_other _ _ _ (hne h2)] at he
      exact h.inj l l' o1 o2 h1 h2 he
    · rw [plNew_other _ _ _ (hne h1), plNew_same] at he
      have := h.blk_lt h1
      simp at he; omega
    · rw [plNew_other _ _ _ (hne h2), plNew_same] at he
      have := h.blk_lt h2
      simp at he; omega
    · rfl
theorem HOk.putM {F : Fr} {w : World} {ρ : Nat → Pl} {ob : Objs} (h : HOk F w ρ ob) {l : Nat} {o : Ob} (ho : Live ob l o) (hm : o.esz = mapSz) {es es' : Array MapEntry} {c c' : Nat} (hb : w.heap[(ρ l).blk]? = some (.map es c)) (cells : List V) (hc : cells = mpCells es') :
    HOk F { w with heap := w.heap.setIfInBounds (ρ l).blk (.map es' c') } ρ (ob.set l (some ⟨o.esz, cells⟩)) ∧
    (∀ v x, RepC w (F.Y ρ ob) ρ ob v x → RepC { w with heap := w.heap.setIfInBounds (ρ l).blk (.map es' c') } (F.Y ρ (ob.set l (some ⟨o.esz, cells⟩))) ρ (ob.set l (some ⟨o.esz, cells⟩)) v x) := by
  obtain ⟨hs1, hs2⟩ := MapKept.heap_set (o' := .map es' c') hb
  have hl := live_lt ho
  have hY : ∀ b, F.Y ρ (ob.set l (some ⟨o.esz, cells⟩)) b → F.Y ρ ob b := by
    rintro b (hx | ⟨i, x, hi, he⟩)
    · exact .inl hx
    · rcases live_set.1 hi with ⟨rfl, _, _⟩ | ⟨_, hi⟩
      · exact .inr ⟨_, o, ho, he⟩
      · exact .inr ⟨i, x, hi, he⟩
  have hτ : ∀ v x, RepC w (F.Y ρ ob) ρ ob v x → RepC { w with heap := w.heap.setIfInBounds (ρ l).blk (.map es' c') } (F.Y ρ (ob.set l (some ⟨o.esz, cells⟩))) ρ (ob.set l (some ⟨o.esz, cells⟩)) v x := by
    intro v x hx
    refine hx.mono' (fun a c hn hcell => ?_) (fun b _ => hY b) (fun i o2 hi => ?_)
    · have hne : a.block ≠ (ρ l).blk := fun e => hn (.inr ⟨l, o, ho, e.symm⟩)
      rw [← hcell]
      exact World.cell?_of_block (hs2 _ hne)
    · by_cases e : i = l
      · subst e
        have := live_same hi ho
        subst this
        exact ⟨_, live_set.2 (.inl ⟨rfl, hl, rfl⟩), rfl, rfl⟩
      · exact ⟨o2, live_set.2 (.inr ⟨e, hi⟩), rfl, rfl⟩
  refine ⟨h.step id rfl rfl rfl (by simp) (fun b hb' hio => ?_) hτ (fun i o2 hi => ?_) (fun i j o1 o2 hi hj he => ?_), hτ⟩
  · refine hs2 _ (fun e => ?_)
    rcases h.fresh l o ho with h3 | h3
    · exact hio (e ▸ h3)
    · omega
  · rcases live_set.1 hi with ⟨rfl, _, e2⟩ | ⟨hne, hi⟩
    · cases e2
      exact .inr ⟨⟨fun h0 => absurd hm h0, fun _ => ⟨es', c', hs1, hc⟩⟩, h.fresh _ o ho, fun hk => h.stay _ o hk ho⟩
    · exact .inl ⟨o2, hi, by simp, rfl, hs2 _ (fun e => hne (h.inj _ _ _ _ hi ho e))⟩
  · have fix : ∀ {i o1}, Live (ob.set l (some ⟨o.esz, cells⟩)) i o1 → ∃ o2, Live ob i o2 := by
      intro i o1 hi
      rcases live_set.1 hi with ⟨rfl, _, _⟩ | ⟨_, hi⟩
      · exact ⟨o, ho⟩
      · exact ⟨_, hi⟩
    obtain ⟨p1, hp1⟩ := fix hi
    obtain ⟨p2, hp2⟩ := fix hj
    exact h.inj i j p1 p2 hp1 hp2 he
theorem does_makeMap (h : Sat F s ρ a w) (o : Oper) (t : TypeId) (r : Option Operand) (he : o.op = .makeMap t r) (K : AState → Prop) (hm : mop P s o K) : Does P F s ρ a w o K := by
  unfold mop at hm
  simp only [he] at hm
  have key : ∀ (hm : grd (s.k ≤ s.ob.length) (fin o.dst K (s.add ⟨4294967291, mpI []⟩) (.mp s.ob.length))) (hrun : (Instr.makeMap t (r.map a.eval)).run P w = .ok (.map (some w.heap.size)) (w.alloc (.map #[] 0))), Does P F s ρ a w o K := by
    rintro ⟨hk, hf⟩ hrun
    obtain ⟨g1, g2⟩ := h.heap.allocM (by rw [← h.k]; exact hk)
    have hn : Sat F (s.add ⟨4294967291, mpI []⟩) _ a _ := h.of_heap_id g1 (by simp; exact Nat.le_succ_of_le h.kle) g2
    have hres : RepC (w.alloc (.map #[] 0)) (F.Y (plNew ρ s.ob.length ⟨w.heap.size, 0, 0⟩) (s.add ⟨4294967291, mpI []⟩).ob) (plNew ρ s.ob.length ⟨w.heap.size, 0, 0⟩) (s.add ⟨4294967291, mpI []⟩).ob (.map (some w.heap.size)) (.mp s.ob.length) := by
      have := RepC.mp (w := w.alloc (.map #[] 0)) (Y := F.Y (plNew ρ s.ob.length ⟨w.heap.size, 0, 0⟩) (s.add ⟨4294967291, mpI []⟩).ob) (ρ := plNew ρ s.ob.length ⟨w.heap.size, 0, 0⟩) (ob := (s.add ⟨4294967291, mpI []⟩).ob) (l := s.ob.length) (o := ⟨4294967291, mpI []⟩) (live_snoc.2 (.inr ⟨rfl, rfl⟩)) rfl
      rwa [plNew_same] at this
    obtain ⟨h1, h2⟩ := fin_sat hn hf hres
    refine ⟨_, _, _, _, h1, h2, .inl ?_, moved_alloc s ρ w w rfl _ _ _ _ _⟩
    unfold execOp
    simp only [he]
    simp [hrun]
  unfold vMkMap at hm
  split at hm
  case h_3 => exact hm.elim
  · rename_i kt et e1 e2
    refine key hm ?_
    have : r = none := by simpa using e2
    subst this
    simp [Instr.makeMap]
  · rename_i kt et k n e1 e2
    refine key hm ?_
    cases r with
    | none => cases e2
    | some x =>
      simp only [Option.map_some, Option.some.injEq] at e2
      have hx := h.ev x
      rw [e2] at hx
      have hx := sc_of hx
      simp [Instr.makeMap, run_underlying (ti_map e1), hx, asInt, asIntOf]
theorem mput_es (k : Int) (v : Value) (c : Nat) : ∀ (l : List MapEntry) (m : List (Int × Value)) (i : Nat), l.map (fun e => (e.key, e.val)) = (m.map fun e => (Value.int .i64 e.1, e.2)) →
    (mfind m k i = none → (l ++ [({ key := .int .i64 k, val := v, born := c } : MapEntry)]).map (fun e => (e.key, e.val)) = (mput m k v).map fun e => (Value.int .i64 e.1, e.2)) ∧
    (∀ j x, mfind m k i = some (j, x) → i ≤ j ∧ ((l[j - i]?).map (·.key)) = some (.int .i64 k) ∧ (l.modify (j - i) fun e => { e with key := .int .i64 k, val := v }).map (fun e => (e.key, e.val)) = (mput m k v).map fun e => (Value.int .i64 e.1, e.2))
  | [], [], i, _ => ⟨fun _ => by simp [mput], fun j x h => by simp [mfind] at h⟩
  | [], e :: m, _, h => by simp at h
  | e :: l, [], _, h => by simp at h
  | e :: l, q :: m, i, h => by
    have h' := h
    simp only [List.map_cons, List.cons.injEq, Prod.mk.injEq] at h
    have ih := mput_es k v c l m (i + 1) h.2
    by_cases hk : k = q.1
    · refine ⟨fun h0 => by simp [mfind, hk] at h0, fun j x h0 => ?_⟩
      simp only [mfind, hk, if_true, Option.some.injEq, Prod.mk.injEq] at h0
      obtain ⟨rfl, _⟩ := h0
      refine ⟨Nat.le_refl _, by simp [h.1.1, hk], ?_⟩
      simp only [Nat.sub_self, mput, hk, if_true]
      rw [List.modify_zero_cons]
      simp only [List.map_cons, h.2]
    · refine ⟨fun h0 => ?_, fun j x h0 => ?_⟩
      · simp only [mfind, hk, if_false] at h0
        have := ih.1 h0
        simp only [mput, hk, if_false, List.cons_append, List.map_cons, h.1.1, h.1.2]
        rw [this]
      · simp only [mfind, hk, if_false] at h0
        obtain ⟨g1, g2, g3⟩ := ih.2 j x h0
        have e1 : j - i = (j - (i + 1)) + 1 := by omega
        refine ⟨by omega, by rw [e1]; simpa using g2, ?_⟩
        rw [e1, List.modify_succ_cons]
        simp only [mput, hk, if_false, List.map_cons, h.1.1, h.1.2]
        rw [g3]
theorem mdel_es (k : Int) : ∀ (l : List MapEntry) (m : List (Int × Value)) (i : Nat), l.map (fun e => (e.key, e.val)) = (m.map fun e => (Value.int .i64 e.1, e.2)) →
    (mfind m k i = none → l.map (fun e => (e.key, e.val)) = (mdel m k).map fun e => (Value.int .i64 e.1, e.2)) ∧
    (∀ j x, mfind m k i = some (j, x) → i ≤ j ∧ (l.eraseIdx (j - i)).map (fun e => (e.key, e.val)) = (mdel m k).map fun e => (Value.int .i64 e.1, e.2))
  | [], [], i, _ => ⟨fun _ => by simp [mdel], fun j x h => by simp [mfind] at h⟩
  | [], e :: m, _, h => by simp at h
  | e :: l, [], _, h => by simp at h
  | e :: l, q :: m, i, h => by
    simp only [List.map_cons, List.cons.injEq, Prod.mk.injEq] at h
    have ih := mdel_es k l m (i + 1) h.2
    by_cases hk : k = q.1
    · refine ⟨fun h0 => by simp [mfind, hk] at h0, fun j x h0 => ?_⟩
      simp only [mfind, hk, if_true, Option.some.injEq, Prod.mk.injEq] at h0
      obtain ⟨rfl, _⟩ := h0
      refine ⟨Nat.le_refl _, ?_⟩
      simp only [Nat.sub_self, mdel, hk, if_true, List.eraseIdx_cons_zero]
      exact h.2
    · refine ⟨fun h0 => ?_, fun j x h0 => ?_⟩
      · simp only [mfind, hk, if_false] at h0
        have := ih.1 h0
        simp only [mdel, hk, if_false, List.map_cons, h.1.1, h.1.2]
        rw [this]
      · simp only [mfind, hk, if_false] at h0
        obtain ⟨g1, g2⟩ := ih.2 j x h0
        have e1 : j - i = (j - (i + 1)) + 1 := by omega
        refine ⟨by omega, ?_⟩
        rw [e1, List.eraseIdx_cons_succ]
        simp only [mdel, hk, if_false, List.map_cons, h.1.1, h.1.2]
        rw [g2]
theorem cells_of_es {es : Array MapEntry} {m : List (Int × Value)} (h : es.toList.map (fun e => (e.key, e.val)) = m.map fun e => (Value.int .i64 e.1, e.2)) : mpI m = mpCells es := by
  unfold mpI mpCells
  rw [es_mpI _ _ h]
/-- an operation that writes a map -/
theorem does_putM (h : Sat F s ρ a w) (o : Oper) (K : AState → Prop) {l : Nat} {q : Ob} (ho : Live s.ob l q) (hm : q.esz = mapSz) {es es' : Array MapEntry} {c c' : Nat} (hb : w.heap[(ρ l).blk]? = some (.map es c)) (m' : List (Int × Value))
    (hes : es'.toList.map (fun e => (e.key, e.val)) = m'.map fun e => (Value.int .i64 e.1, e.2)) (hw : l ∈ wset s o.op)
    (hK : (o.dst = none ∧ K { s with ob := s.ob.set l (some ⟨q.esz, mpI m'⟩) } ∧ (execOp a.eval o).run P w = .ok .skip { w with heap := w.heap.setIfInBounds (ρ l).blk (.map es' c') }) ∨
      (fin o.dst K { s with ob := s.ob.set l (some ⟨q.esz, mpI m'⟩) } (.tup []) ∧ (execOp a.eval o).run P w = .ok (.value (.tuple #[])) { w with heap := w.heap.setIfInBounds (ρ l).blk (.map es' c') })) : Does P F s ρ a w o K := by
  obtain ⟨g1, g2⟩ := h.heap.putM ho hm (c' := c') hb _ (cells_of_es hes)
  have hn : Sat F { s with ob := s.ob.set l (some ⟨q.esz, mpI m'⟩) } ρ a { w with heap := w.heap.setIfInBounds (ρ l).blk (.map es' c') } := h.of_heap_id g1 (by simpa using h.kle) g2
  obtain ⟨hs1, hs2⟩ := MapKept.heap_set (o' := .map es' c') hb
  have hmv : Moved (wset s o.op) s ρ w { s with ob := s.ob.set l (some ⟨q.esz, mpI m'⟩) } ρ { w with heap := w.heap.setIfInBounds (ρ l).blk (.map es' c') } := ⟨by simp, fun b _ hn => hs2 b (hn l q hw ho), fun l' o' ho' => by
    rcases live_set.1 ho' with ⟨rfl, _, _⟩ | ⟨_, ho'⟩
    · exact .inl ⟨q, ho, rfl⟩
    · exact .inl ⟨o', ho', rfl⟩⟩
  rcases hK with ⟨hd, hk, hrun⟩ | ⟨hf, hrun⟩
  · exact ⟨_, ρ, _, undef, hk, by rw [hd]; exact hn, .inr ⟨hrun, rfl⟩, hmv⟩
  · obtain ⟨h1, h2⟩ := fin_sat hn hf (.tup (cs := #[]) rfl fun i hi => absurd hi (by simp))
    exact ⟨_, ρ, _, _, h1, h2, .inl hrun, hmv.put _ _⟩
theorem does_mapUpdate (h : Sat F s ρ a w) (o : Oper) (t : TypeId) (m k v : Operand) (he : o.op = .mapUpdate t m k v) (K : AState → Prop) (hm : mop P s o K) : Does P F s ρ a w o K := by
  unfold mop at hm
  simp only [he] at hm
  obtain ⟨hd, hm⟩ := hm
  have hxm := h.ev m
  have hxk := h.ev k
  have hxv := h.ev v
  unfold vMapPut at hm
  split at hm
  case h_2 => exact hm.elim
  rename_i kt et l n x e1 e2 e3 e4
  rw [e2] at hxm
  rw [e3] at hxk
  rw [e4] at hxv
  have hxk := sc_of hxk
  have hxv := sc_of hxv
  obtain ⟨hkt, hm⟩ := hm
  have hkt := ti_i64 hkt
  obtain ⟨q, ho, hm⟩ := vObj_live hm
  obtain ⟨mm, hmm, hk⟩ := vMapOf_of hm
  obtain ⟨es, clock, hv, hb, hc, hsz⟩ := mp_of h hxm ho
  have hes := mpI_es es.toList mm (by rw [hmm] at hc; simpa [mpI, mpCells] using hc)
  have hf := findNow_i64 n es.toList mm 0 hes
  obtain ⟨p1, p2⟩ := mput_es n x clock es.toList mm 0 hes
  have hw : l ∈ wset s o.op := by rw [he]; simp [wset, e2]
  cases hmf : mfind mm n 0 with
  | none =>
    rw [hmf] at hf
    refine does_putM h o K ho hsz (es' := es.push { key := .int .i64 n, val := x, born := clock }) (c' := clock + 1) hb (mput mm n x) (by simpa using p1 hmf) hw (.inl ⟨hd, hk, ?_⟩)
    unfold execOp
    simp only [he]
    simp [Instr.mapUpdate, run_underlying (ti_map e1), hv, hxk, hxv, MapKept.run_getObj_map hb, key_i64 hkt, MapKept.run_findKey hkt hf, MapKept.run_setObj_map _ hb]
  | some r =>
    obtain ⟨j, y⟩ := r
    rw [hmf] at hf
    obtain ⟨_, q2, q3⟩ := p2 j y hmf
    rw [Nat.sub_zero] at q2 q3
    refine does_putM h o K ho hsz (es' := es.modify j fun e => { e with key := .int .i64 n, val := x }) (c' := clock) hb (mput mm n x) (by simpa using q3) hw (.inl ⟨hd, hk, ?_⟩)
    have hkk : (((es[j]?).map (·.key)).getD (.int .i64 n)) = .int .i64 n := by
      have : (es[j]?).map (·.key) = some (.int .i64 n) := by simpa using q2
      rw [this]; rfl
    unfold execOp
    simp only [he]
    simp [Instr.mapUpdate, run_underlying (ti_map e1), hv, hxk, hxv, MapKept.run_getObj_map hb, key_i64 hkt, MapKept.run_findKey hkt hf, hkk, Instr.keyThatStays, Instr.sameBits, MapKept.run_setObj_map _ hb]
theorem does_insert (h : Sat F s ρ a w) (o : Oper) (t : TypeId) (m k v : Operand) (he : o.op = .insert t m k v) (K : AState → Prop) (hm : mop P s o K) : Does P F s ρ a w o K := by
  unfold mop at hm
  simp only [he] at hm
  obtain ⟨hd, hm⟩ := hm
  have hxm := h.ev m
  have hxk := h.ev k
  have hxv := h.ev v
  unfold vMapPut at hm
  split at hm
  case h_2 => exact hm.elim
  rename_i kt et l n x e1 e2 e3 e4
  rw [e2] at hxm
  rw [e3] at hxk
  rw [e4] at hxv
  have hxk := sc_of hxk
  have hxv := sc_of hxv
  obtain ⟨hkt, hm⟩ := hm
  have hkt := ti_i64 hkt
  obtain ⟨q, ho, hm⟩ := vObj_live hm
  obtain ⟨mm, hmm, hk⟩ := vMapOf_of hm
  obtain ⟨es, clock, hv, hb, hc, hsz⟩ := mp_of h hxm ho
  have hes := mpI_es es.toList mm (by rw [hmm] at hc; simpa [mpI, mpCells] using hc)
  have hf := findNow_i64 n es.toList mm 0 hes
  obtain ⟨p1, p2⟩ := mput_es n x clock es.toList mm 0 hes
  have hw : l ∈ wset s o.op := by rw [he]; simp [wset, e2]
  cases hmf : mfind mm n 0 with
  | none =>
    rw [hmf] at hf
    refine does_putM h o K ho hsz (es' := es.push { key := .int .i64 n, val := x, born := clock }) (c' := clock + 1) hb (mput mm n x) (by simpa using p1 hmf) hw (.inl ⟨hd, hk, ?_⟩)
    unfold execOp
    simp only [he]
    simp [Instr.mapUpdate, run_underlying (ti_map e1), hv, hxk, hxv, MapKept.run_getObj_map hb, key_i64 hkt, MapKept.run_findKey hkt hf, MapKept.run_setObj_map _ hb]
  | some r =>
    obtain ⟨j, y⟩ := r
    rw [hmf] at hf
    obtain ⟨_, q2, q3⟩ := p2 j y hmf
    rw [Nat.sub_zero] at q2 q3
    refine does_putM h o K ho hsz (es' := es.modify j fun e => { e with key := .int .i64 n, val := x }) (c' := clock) hb (mput mm n x) (by simpa using q3) hw (.inl ⟨hd, hk, ?_⟩)
    have hkk : (((es[j]?).map (·.key)).getD (.int .i64 n)) = .int .i64 n := by
      have : (es[j]?).map (·.key) = some (.int .i64 n) := by simpa using q2
      rw [this]; rfl
    unfold execOp
    simp only [he]
    simp [Instr.mapUpdate, run_underlying (ti_map e1), hv, hxk, hxv, MapKept.run_getObj_map hb, key_i64 hkt, MapKept.run_findKey hkt hf, hkk, Instr.keyThatStays, Instr.sameBits, MapKept.run_setObj_map _ hb]
theorem does_delete (h : Sat F s ρ a w) (o : Oper) (t u : TypeId) (m k : Operand) (he : o.op = .call { callee := .builtin .delete, args := #[m, k], argTypes := #[t, u] }) (K : AState → Prop) (hm : vMapDel P s (ti P t).desc (s.ev m) (s.ev k) fun s' => fin o.dst K s' (.tup [])) : Does P F s ρ a w o K := by
  have hxm := h.ev m
  have hxk := h.ev k
  unfold vMapDel at hm
  split at hm
  case h_2 => exact hm.elim
  rename_i kt et l n e1 e2 e3
  rw [e2] at hxm
  rw [e3] at hxk
  have hxk := sc_of hxk
  obtain ⟨hkt, hm⟩ := hm
  have hkt := ti_i64 hkt
  obtain ⟨q, ho, hm⟩ := vObj_live hm
  obtain ⟨mm, hmm, hk⟩ := vMapOf_of hm
  obtain ⟨es, clock, hv, hb, hc, hsz⟩ := mp_of h hxm ho
  have hes := mpI_es es.toList mm (by rw [hmm] at hc; simpa [mpI, mpCells] using hc)
  have hf := findNow_i64 n es.toList mm 0 hes
  obtain ⟨p1, p2⟩ := mdel_es n es.toList mm 0 hes
  have hw : l ∈ wset s o.op := by rw [he]; simp [wset, e2]
  have exec : ∀ (w' : World), (Builtin.delete_ #[t, u] o.type #[a.eval m, a.eval k]).run P w = .ok (.tuple #[]) w' → (execOp a.eval o).run P w = .ok (.value (.tuple #[])) w' := by
    intro w' hr
    unfold execOp
    simp [he, resolve, invoke, builtin, hr]
  cases hmf : mfind mm n 0 with
  | none =>
    rw [hmf] at hf
    refine does_putM h o K ho hsz (es' := es) (c' := clock) hb (mdel mm n) (p1 hmf) hw (.inr ⟨hk, exec _ ?_⟩)
    simp [Builtin.delete_, run_underlying (ti_map e1), hv, hxk, MapKept.run_getObj_map hb, key_i64 hkt, MapKept.run_findKey hkt hf, MapKept.run_setObj_map _ hb]
  | some r =>
    obtain ⟨j, y⟩ := r
    rw [hmf] at hf
    obtain ⟨_, q3⟩ := p2 j y hmf
    rw [Nat.sub_zero] at q3
    refine does_putM h o K ho hsz (es' := es.eraseIdxIfInBounds j) (c' := clock) hb (mdel mm n) (by
      rw [← q3]
      congr 1
      unfold Array.eraseIdxIfInBounds
      split
      · simp
      · rename_i hlt
        rw [List.eraseIdx_of_length_le (by simpa using hlt)]) hw (.inr ⟨hk, exec _ ?_⟩)
    simp [Builtin.delete_, run_underlying (ti_map e1), hv, hxk, MapKept.run_getObj_map hb, key_i64 hkt, MapKept.run_findKey hkt hf, MapKept.run_setObj_map _ hb]

theorem does_alloc (h : Sat F s ρ a w) (o : Oper) (t : TypeId) (he : o.op = .alloc t) (K : AState → Prop) (hm : mop P s o K) : Does P F s ρ a w o K := by
  unfold mop at hm
  simp only [he] at hm
  obtain ⟨⟨hok, hz, hall, hk⟩, hf⟩ := hm
  obtain ⟨i, z, hi, h0, hz2, hs, hb⟩ := zero_some hok hz
  have hr := RepL.zeros (w := w) (ρ := ρ) (Y := F.Y ρ s.ob) (ob := s.ob) (ti P t).zero hall
  rw [hz2] at hr
  have hn := h.newObj hk z.cells t ⟨(ti P t).size, zerosOf (ti P t)⟩ (ti_ne hok) (by simp [zerosOf, hz2]) (fun i hi => by
    have h5 := hr.2 i (by simpa [zerosOf, hz2] using hi)
    simpa [zerosOf, hz2] using h5)
  obtain ⟨h1, h2⟩ := fin_sat hn hf (new_ptr' (ti_ne hok))
  refine ⟨_, _, _, _, h1, h2, .inl ?_, moved_alloc s ρ w w rfl _ _ _ _ _⟩
  unfold execOp
  simp only [he]
  simp [Instr.alloc, zeroValue, typeInfo, hi, h0, newVar, newRow]

theorem does_box (h : Sat F s ρ a w) (o : Oper) (t : TypeId) (x : Operand) (he : o.op = .box t x) (K : AState → Prop) (hm : mop P s o K) : Does P F s ρ a w o K := by
  unfold mop at hm
  simp only [he] at hm
  obtain ⟨⟨h1, hk, hne⟩, hf⟩ := hm
  obtain ⟨hs, hr⟩ := cells_rep (h.ev x) h1
  have hn := h.newObj hk (a.eval x).cells t ⟨(vcells (s.ev x)).length, vcells (s.ev x)⟩ hne (by simp [hs]) hr
  obtain ⟨h1, h2⟩ := fin_sat hn hf (new_ptr' hne)
  refine ⟨_, _, _, _, h1, h2, .inl ?_, moved_alloc s ρ w w rfl _ _ _ _ _⟩
  unfold execOp
  simp only [he]
  simp [Instr.box, newVar, newRow]

theorem made_rep {Y : Nat → Prop} {ob : Objs} (z : Array Value) (hall : z.toList.all Value.oneCell' = true) (hp : 0 < z.size) (n m : Nat) (hm : n * z.size ≤ m) :
    n * z.size ≤ (madeCells z m).size ∧ ∀ i (hi : i < (reps n (z.toList.map V.sc)).length), RepC w Y ρ ob ((madeCells z m).getD i undef) (reps n (z.toList.map V.sc))[i] ∧ ((madeCells z m).getD i undef).oneCell' = true := by
  refine ⟨by rw [size_madeCells]; exact hm, fun i hi => ?_⟩
  have hi2 : i < n * z.size := by rw [length_reps] at hi; simpa using hi
  have hmod : i % z.size < z.size := Nat.mod_lt _ hp
  have h1 : (madeCells z m).getD i undef = z[i % z.size] := by
    have : i < m := by omega
    simp [madeCells, Array.getD, this, hmod]
  have h2 : (reps n (z.toList.map V.sc))[i]? = some (.sc z[i % z.size]) := by
    rw [reps_get _ _ _ (by simpa using hi2)]
    simp [hmod]
  rw [List.getElem?_eq_getElem hi] at h2
  cases h2' : (reps n (z.toList.map V.sc))[i]
  all_goals rw [h2'] at h2
  all_goals cases h2
  rw [h1]
  exact ⟨.d (.sc _), List.all_eq_true.1 hall _ (by simp)⟩

theorem does_makeSlice (h : Sat F s ρ a w) (o : Oper) (t : TypeId) (l c : Operand) (he : o.op = .makeSlice t l c) (K : AState → Prop) (hm : mop P s o K) : Does P F s ρ a w o K := by
  unfold mop at hm
  simp only [he] at hm
  unfold vMakeD at hm
  split at hm
  case h_2 => exact hm.elim
  rename_i e hd
  unfold vMake at hm
  split at hm
  case h_2 => exact hm.elim
  rename_i kl l' kc c' e1 e2
  obtain ⟨⟨hok, hzs, hp, hall, hk⟩, ⟨h0, hlc, hb, h63⟩, hf⟩ := hm
  have hl := h.ev l
  have hc := h.ev c
  rw [e1] at hl
  rw [e2] at hc
  obtain ⟨i, z, hi, hz, hz2, hs, hby⟩ := zero_some hok (fun e => by rw [e] at hzs; simp at hzs; omega)
  have hzc : z.cells.size = i.size := by rw [hz2] at hzs; simpa [hs] using hzs
  rw [hz2] at hall
  have hrun := run_make (P := P) w t e i z (ti_slice hd) hi hz kl kc l' c' h0 hlc (by rw [← hby]; omega) h63
  have hge : l'.toNat * z.cells.size ≤ c'.toNat * i.size := by rw [hzc]; exact Nat.mul_le_mul_right _ (by omega)
  obtain ⟨hsz, hr⟩ := made_rep (w := w) (ρ := ρ) (Y := F.Y ρ s.ob) (ob := s.ob) z.cells hall (by rw [hzc, ← hs]; exact hp) l'.toNat (c'.toNat * i.size) hge
  have hn := h.newObj hk (madeCells z.cells (c'.toNat * i.size)) e ⟨(ti P e).size, reps l'.toNat (zerosOf (ti P e))⟩ (ti_ne hok) (by simp only [length_reps, zerosOf, hz2]; simpa using hsz) (by simpa [zerosOf, hz2] using hr)
  obtain ⟨h1, h2⟩ := fin_sat hn hf (new_ref' (cap := c'.toNat) (ti_ne hok) (by omega) (by simp [maxLen]; omega) (by rw [size_madeCells]; simp only [hs]; omega))
  refine ⟨_, _, _, _, h1, h2, .inl ?_, moved_alloc s ρ w w rfl _ _ _ _ _⟩
  unfold execOp
  simp only [he, sc_of hl, sc_of hc]
  simp [hrun]

theorem parts_rep (h : Sat F s ρ a w) (parts : Array (Nat × Operand)) : ∀ i (h1 : i < (parts.toList.map fun q => (q.1, s.ev q.2)).length) (h2 : i < (parts.map fun q => (q.1, a.eval q.2)).toList.length),
    ((parts.map fun q => (q.1, a.eval q.2)).toList[i]).1 = ((parts.toList.map fun q => (q.1, s.ev q.2))[i]).1 ∧ RepC w (F.Y ρ s.ob) ρ s.ob ((parts.map fun q => (q.1, a.eval q.2)).toList[i]).2 ((parts.toList.map fun q => (q.1, s.ev q.2))[i]).2 := by
  intro i h1 h2
  simp only [Array.toList_map, List.getElem_map, true_and]
  exact h.ev _

theorem does_buildSlice (h : Sat F s ρ a w) (o : Oper) (t : TypeId) (len : Nat) (parts : Array (Nat × Operand)) (he : o.op = .buildSlice t len parts) (K : AState → Prop) (hm : mop P s o K) : Does P F s ρ a w o K := by
  unfold mop at hm
  simp only [he] at hm
  unfold vMkD at hm
  split at hm
  case h_2 => exact hm.elim
  rename_i e hd
  obtain ⟨⟨hok, hzs, hp, hall, h24, hk⟩, hf⟩ := hm
  obtain ⟨i, z, hi, hz, hz2, hs, hby⟩ := zero_some hok (fun e => by rw [e] at hzs; simp at hzs; omega)
  have hzc : z.cells.size = (ti P e).size := by rw [hz2] at hzs; simpa using hzs
  rw [hz2] at hall
  have hl0 : RepL w (F.Y ρ s.ob) ρ s.ob ((Array.range (len * (ti P e).size)).map (z.cells[· % z.cells.size]!)) (reps len (zerosOf (ti P e))) := by
    obtain ⟨hsz, hr⟩ := made_rep (w := w) (ρ := ρ) (Y := F.Y ρ s.ob) (ob := s.ob) z.cells hall (by rw [hzc]; exact hp) len (len * (ti P e).size) (by rw [hzc]; exact Nat.le_refl _)
    refine ⟨?_, ?_⟩
    · simp [length_reps, zerosOf, hz2, hzc]
    · simpa [zerosOf, hz2, madeCells] using hr
  obtain ⟨ys, cs', hky, hy, hfill⟩ := sound_fill (w := w) (ρ := ρ) _ _ _ _ _ _ hl0 (by simp) (parts_rep h parts) hf
  have hn := h.newObj hk cs' e ⟨(ti P e).size, ys⟩ (ti_ne hok) (by simp [hy.1]) hy.2
  have hlen : cs'.size = len * (ti P e).size := by
    have : ∀ (pl : Nat → Option (Nat × Nat)) (vs : List (Nat × Value)) (c c' : Array Value), Instr.fill pl c vs = some c' → c'.size = c.size := by
      intro pl vs
      induction vs with
      | nil => intro c c' h; simp [Instr.fill] at h; rw [h]
      | cons p vs ih =>
        intro c c' h
        obtain ⟨j, v⟩ := p
        simp only [Instr.fill] at h
        split at h
        · cases h
        · split at h
          · cases h
          · rw [ih _ _ h]
            rename_i off size _ _
            have hfold : v.cells.zipIdx.foldl (fun cs (c, j) => cs.setIfInBounds (off + j) c) c = (v.cells.toList.zipIdx 0).foldl (fun (cs : Array Value) (q : Value × Nat) => cs.setIfInBounds (off + q.2) q.1) c := by
              rw [← Array.foldl_toList]
              simp
            rw [hfold]
            exact (foldl_set v.cells.toList c off 0 0).1
    rw [this _ _ _ _ hfill]; simp
  have hmax : len ≤ maxLen := by
    have : len * 1 ≤ len * (ti P e).size := Nat.mul_le_mul_left _ hp
    simp [maxLen]; omega
  obtain ⟨h1, h2⟩ := fin_sat hn hky (new_ref' (cap := len) (ti_ne hok) (Nat.le_refl _) hmax (by rw [hlen]; exact Nat.le_refl _))
  refine ⟨_, _, _, _, h1, h2, .inl ?_, moved_alloc s ρ w w rfl _ _ _ _ _⟩
  unfold execOp
  simp only [he]
  have h24' : ¬ (len * (ti P e).size > 2 ^ 24) := by omega
  have hfill2 : Instr.fill (fun i => some (i * (ti P e).size, (ti P e).size)) ((Array.range (len * (ti P e).size)).map (z.cells[· % z.cells.size]!)) (List.map (fun q => (q.1, a.eval q.2)) parts.toList) = some cs' := by
    simpa using hfill
  by_cases h0 : len * (ti P e).size = 0
  · have hfill3 : Instr.fill (fun i => some (i * (ti P e).size, (ti P e).size)) ((Array.range (len * (ti P e).size)).map fun x => (#[] : Array Value)[x % (#[] : Array Value).size]!) (List.map (fun q => (q.1, a.eval q.2)) parts.toList) = some cs' := by
      rw [h0, show Array.range 0 = #[] from rfl, Array.map_empty] at hfill2 ⊢
      exact hfill2
    simp only [Instr.buildSlice, Sem.run_bind, run_underlying (ti_slice hd), Result.andThen_ok, run_sizeOf_ti hok, h24', if_false, Sem.run_pure, if_pos h0, hfill3, Array.toList_map, newRow, run_newObj, World.alloc_eq]
  · have hzv : (zeroValue e).run P w = .ok z w := by simp [zeroValue, typeInfo, hi, hz]
    simp only [Instr.buildSlice, Sem.run_bind, run_underlying (ti_slice hd), Result.andThen_ok, run_sizeOf_ti hok, h24', if_false, Sem.run_pure, if_neg h0, hzv, hfill2, Array.toList_map, newRow, run_newObj, World.alloc_eq]

theorem does_build (h : Sat F s ρ a w) (o : Oper) (t : TypeId) (parts : Array (Nat × Operand)) (he : o.op = .build t parts) (K : AState → Prop) (hm : mop P s o K) : Does P F s ρ a w o K := by
  unfold mop at hm
  simp only [he] at hm
  obtain ⟨⟨hok, hzn, hall⟩, hm⟩ := hm
  obtain ⟨i, z, hi, hz, hz2, hs, hby⟩ := zero_some hok hzn
  have hl0 : RepL w (F.Y ρ s.ob) ρ s.ob z.cells (zerosOf (ti P t)) := by
    have := RepL.zeros (w := w) (ρ := ρ) (Y := F.Y ρ s.ob) (ob := s.ob) (ti P t).zero hall
    rw [hz2] at this
    simpa [zerosOf, hz2] using this
  have agg : ∀ {ys : List V} {cs' : Array Value}, RepL w (F.Y ρ s.ob) ρ s.ob cs' ys → RepC w (F.Y ρ s.ob) ρ s.ob (.agg cs') (.agg ys) := fun hy => .agg hy.1 (fun i hi => (hy.2 i hi).1)
  split at hm
  · rename_i fs hd
    obtain ⟨hfs, hm⟩ := hm
    obtain ⟨fields, hu, rfl⟩ := ti_struct hd
    obtain ⟨ys, cs', hky, hy, hfill⟩ := sound_fill (w := w) (ρ := ρ) _ _ _ _ _ _ hl0 (by simp) (parts_rep h parts) hm
    obtain ⟨h1, h2⟩ := fin_sat h hky (agg hy)
    refine ⟨_, _, _, _, h1, h2, .inl ?_, moved_id s ρ w _ _⟩
    unfold execOp
    simp only [he]
    have hpl : (fields.toList.mapM fun f => (P.info? f.type).map fun i => (f.offset, i.size)) = some (fields.toList.map fun f => (f.offset, (ti P f.type).size)) := by
      have : ∀ l : List Field, (∀ f ∈ l, (ti P f.type).ok = true) → (l.mapM fun f => (P.info? f.type).map fun i => (f.offset, i.size)) = some (l.map fun f => (f.offset, (ti P f.type).size)) := by
        intro l
        induction l with
        | nil => intro _; rfl
        | cons f l ih =>
          intro hl
          obtain ⟨i, d, h1, _, _, h2, _⟩ := ti_ok (hl f (by simp))
          simp [List.mapM_cons, h1, h2, ih (fun g hg => hl g (by simp [hg]))]
      refine this _ (fun f hf => ?_)
      have := List.all_eq_true.1 hfs (f.offset, f.type) (List.mem_map.2 ⟨f, hf, rfl⟩)
      exact this
    have hb : P.built t (parts.map fun q => (q.1, a.eval q.2)).toList = some cs' := by
      unfold Program.built
      simp only [hi, hu, hz, hpl]
      rw [← hfill]
      congr 1
      funext j
      simp
      rfl
    simp [run_build w t _ cs' hb]
  · rename_i n e hd
    obtain ⟨hok2, hm⟩ := hm
    obtain ⟨ys, cs', hky, hy, hfill⟩ := sound_fill (w := w) (ρ := ρ) _ _ _ _ _ _ hl0 (by simp) (parts_rep h parts) hm
    obtain ⟨h1, h2⟩ := fin_sat h hky (agg hy)
    refine ⟨_, _, _, _, h1, h2, .inl ?_, moved_id s ρ w _ _⟩
    unfold execOp
    simp only [he]
    obtain ⟨ie, d, h3, _, _, h4, _⟩ := ti_ok hok2
    have hb : P.built t (parts.map fun q => (q.1, a.eval q.2)).toList = some cs' := by
      unfold Program.built
      simp only [hi, ti_array hd, hz, h3]
      rw [← hfill, h4]
    simp [run_build w t _ cs' hb]
  · exact hm.elim

theorem does_store (h : Sat F s ρ a w) (o : Oper) (t : TypeId) (p x : Operand) (he : o.op = .store t p x) (K : AState → Prop) (hm : mop P s o K) : Does P F s ρ a w o K := by
  unfold mop at hm
  simp only [he] at hm
  obtain ⟨hd, hm⟩ := hm
  have hp := h.ev p
  unfold vStore at hm
  split at hm
  case h_2 => exact hm.elim
  rename_i l off e1
  rw [e1] at hp
  obtain ⟨ob, ho, ⟨hok, hsz, h1, hfit⟩, hk⟩ := vObj_live hm
  obtain ⟨hs2, hr2⟩ := cells_rep (h.ev x) h1
  have hmm : ob.esz ≠ mapSz := by
    generalize a.eval p = pv at hp
    cases hp with
    | d hp => cases hp
    | ptr ho' hm' => exact live_same ho' ho ▸ hm'
  obtain ⟨w', hrun, hh, hτ, hkp, hsz2⟩ := h.heap.store ho hmm off (a.eval x).cells.toList (vcells (s.ev x)) (by simpa using hs2) hfit (fun i hi => by
    have h3 := (hr2 i hi).1
    have hi2 : i < (a.eval x).cells.size := by omega
    simpa [List.getD, Array.getD, hi2] using h3) (fun v hv => by
    obtain ⟨i, hi, rfl⟩ := List.mem_iff_getElem.1 hv
    have hi2 : i < (a.eval x).cells.size := by simpa using hi
    have h3 := (hr2 i (by omega)).2
    simpa [Array.getD, hi2] using h3)
  refine ⟨_, ρ, w', undef, hk, ?_, .inr ⟨?_, rfl⟩, ⟨hsz2, fun b _ hn => hkp b (hn l ob (by rw [he]; simp [wset, e1]) ho), fun l' o' ho' => ?_⟩⟩
  rotate_left 2
  · rcases live_set.1 ho' with ⟨rfl, _, _⟩ | ⟨_, ho'⟩
    · exact .inl ⟨ob, ho, rfl⟩
    · exact .inl ⟨o', ho', rfl⟩
  · rw [hd]
    exact h.of_heap_id hh (by simpa using h.kle) hτ
  · unfold execOp
    simp only [he]
    have hpv : a.eval p = .pointer (some ⟨(ρ l).blk, (ρ l).base + off, none⟩) := by
      generalize a.eval p = pv at hp ⊢
      cases hp with
      | d hp => cases hp
      | ptr => rfl
    have hne : ¬ ((a.eval x).cells.size ≠ (ti P t).size) := by rw [hs2, hsz]; simp
    simp only [Instr.storeAt, hpv, Instr.sureAddr, storeVar, Sem.run_bind, Sem.run_pure, Result.andThen_ok, run_sizeOf_ti hok, hne, if_false, hrun]

end
end Go.AG

/-
  AG, part I: append to an owned slice. Conditions: none.
-/
set_option linter.unusedSimpArgs false
set_option linter.unusedVariables false
namespace Go.AG
open Go.RowKit

section
variable {P : Program} {F : Fr} {s : AState} {ρ : Nat → Pl} {a : Act} {w : World}

/-- append with room enough, at whatever place of the block -/
theorem run_append_room_at (w : World) (t ty e : TypeId) (i : TypeInfo) (ht : P.underlying t = some (.slice e)) (hi : P.info? e = some i)
    (g o sLen sCap : Nat) (cur : Array Value) (hg : w.heap[g]? = some (.cells cur e (0, 0)))
    (a : Addr) (m c : Nat) (news : List Value) (hl : news.length = m * i.size) (hnews : ∀ j u, news[j]? = some u → w.cell? (a.add j) = some u) (h1 : ∀ u ∈ news, u.oneCell' = true)
    (hroom : sLen + m ≤ sCap) (hfit : o + sLen * i.size + news.length ≤ cur.size) :
    (Builtin.append_ #[t, t] ty #[.slice (some ⟨g, o, none⟩) sLen sCap, .slice (some a) m c]).run P w =
      .ok (.slice (some ⟨g, o, none⟩) (sLen + m) sCap) (w.setRow g (wr cur.toList (o + sLen * i.size) news).toArray) := by
  have hf := run_firstCells_some (P := P) w i.size m a m c news hl hnews
  have hst := run_storeCells_at P g (o + sLen * i.size) e news 0 cur w hg (by simpa using hfit) h1
  simp only [Nat.add_zero] at hst
  simp [Builtin.append_, run_underlying ht, sizeOf, typeInfo, hi, Builtin.lenOf, hroom, hf, Addr.add_lit, hst, wr]

/-- nothing appended -/
theorem run_append_zero (w : World) (t tx ty e : TypeId) (i : TypeInfo) (ht : P.underlying t = some (.slice e)) (hi : P.info? e = some i) (b : Option Addr) (sLen sCap : Nat) (h : sLen ≤ sCap) (x : Value) (vs : List Value) (hs : Src P i.size tx x 0 vs w) :
    (Builtin.append_ #[t, tx] ty #[.slice b sLen sCap, x]).run P w = .ok (.slice b sLen sCap) w := by
  have hvs : vs = [] := List.eq_nil_of_length_eq_zero (by rw [hs.newsLen]; simp)
  subst hvs
  rcases hs.kind with ⟨e', hk⟩ | hk <;> cases b <;> simp [Builtin.append_, run_underlying ht, run_underlying hk, sizeOf, typeInfo, hi, hs.len, h, hs.cells, storeCells]

/-- what the appended values are -/
theorem news_rep (h : Sat F s ρ a w) (y : Operand) (size : Nat) (K : Nat → List V → Prop) (hv : vNews s.ob size (s.ev y) K) :
    ∃ (m : Nat) (news : List V), K m news ∧ news.length = m * size ∧ ∃ (ad : Option Addr) (c : Nat), a.eval y = .slice ad m c ∧ (ad = none → m = 0) ∧
      ∃ vs : List Value, vs.length = news.length ∧ (∀ i (hi : i < news.length), RepC w (F.Y ρ s.ob) ρ s.ob (vs.getD i undef) news[i]) ∧ (∀ v ∈ vs, v.oneCell' = true) ∧
        ∀ ad', ad = some ad' → ∀ j u, vs[j]? = some u → w.cell? (ad'.add j) = some u := by
  have hr := h.ev y
  generalize s.ev y = Y at *
  generalize a.eval y = v at *
  unfold vNews at hv
  cases hr with
  | d hr =>
    cases hr with
    | nil =>
      obtain ⟨⟨h1, h2⟩, hk⟩ := hv
      exact ⟨0, [], hk, by simp, none, 0, rfl, fun _ => rfl, [], rfl, fun i hi => absurd hi (by simp), fun v hv => absurd hv (by simp), fun ad' e => by cases e⟩
    | sl0 aa =>
      obtain ⟨⟨h1, h2⟩, hk⟩ := hv
      exact ⟨0, [], hk, by simp, some aa, 0, rfl, fun _ => rfl, [], rfl, fun i hi => absurd hi (by simp), fun v hv => absurd hv (by simp), fun ad' e j u hu => by simp at hu⟩
    | @sl b o len cap xs cs h1 h2 h3 h4 =>
      obtain ⟨⟨h5, h6⟩, hk⟩ := hv
      refine ⟨len, xs, hk, h5, some ⟨b, o, none⟩, cap, rfl, (fun e => by cases e), (List.range xs.length).map cs, by simp, fun i hi => ?_, fun v hv => ?_, fun ad' e j u hu => ?_⟩
      · have : ((List.range xs.length).map cs).getD i undef = cs i := by simp [List.getD, hi]
        rw [this]; exact .d (h2 i hi)
      · simp only [List.mem_map, List.mem_range] at hv
        obtain ⟨i, hi, rfl⟩ := hv
        exact (one_cell (ρ := ρ) (ob := s.ob) (RepC.d (h2 i hi)) (oneL_get h6 i hi)).1
      · cases e
        have hj : j < xs.length := by
          have := (List.getElem?_eq_some_iff.1 hu).1
          simpa using this
        simp [hj] at hu
        subst hu
        rw [Addr.add_lit]; exact h1 j hj
    | sc =>
      cases v with
      | slice ad n c =>
        cases ad with
        | none =>
          cases n with
          | zero => cases c with
            | zero => exact ⟨0, [], hv, by simp, none, 0, rfl, fun _ => rfl, [], rfl, fun i hi => absurd hi (by simp), fun v hv => absurd hv (by simp), fun ad' e => by cases e⟩
            | succ c => exact hv.elim
          | succ n => exact hv.elim
        | some ad => exact hv.elim
      | _ => exact hv.elim
    | _ => exact hv.elim
  | @ref l off m cap o ho hmm h1 h2 h3 =>
    obtain ⟨o2, ho2, ⟨h5, h6⟩, hk⟩ := vObj_live hv
    have eo : o2 = o := by unfold Live at ho ho2; rw [ho2] at ho; cases ho; rfl
    subst eo
    have hc := ((h.heap.obj l o2 ho).cells hmm).cell
    have hlen : ((o2.cells.drop off).take (m * size)).length = m * size := by simp; omega
    refine ⟨m, _, hk, hlen, _, cap, rfl, (fun e => by cases e), (List.range (m * size)).map (fun i => (w.cell? ⟨(ρ l).blk, (ρ l).base + (off + i), none⟩).getD undef), by simp [hlen], fun i hi => ?_, fun v hv => ?_, fun ad' e j u hu => ?_⟩
    · have hi2 : i < m * size := by omega
      obtain ⟨c, h7, h8, _⟩ := hc (off + i) (by omega)
      have : ((List.range (m * size)).map (fun i => (w.cell? ⟨(ρ l).blk, (ρ l).base + (off + i), none⟩).getD undef)).getD i undef = c := by simp [List.getD, hi2, h7]
      rw [this]
      simpa using h8
    · simp only [List.mem_map, List.mem_range] at hv
      obtain ⟨i, hi, rfl⟩ := hv
      obtain ⟨c, h7, _, h8⟩ := hc (off + i) (by omega)
      rw [h7]; exact h8
    · cases e
      have hj : j < m * size := by
        have := (List.getElem?_eq_some_iff.1 hu).1
        simpa using this
      obtain ⟨c, h7, _, _⟩ := hc (off + j) (by omega)
      simp [hj, h7] at hu
      subst hu
      rw [Addr.add_lit, Nat.add_assoc]; exact h7
  | @ref0 l off o p ho hmm =>
    obtain ⟨o2, ho2, ⟨h5, h6⟩, hk⟩ := vObj_live hv
    refine ⟨0, _, hk, by simp, _, 0, rfl, fun _ => rfl, [], by simp, fun i hi => absurd hi (by simp), fun v hv => absurd hv (by simp), fun ad' e j u hu => by simp at hu⟩
  | _ => exact hv.elim

/-- the cells behind an append: the elder ones, then the new ones -/
theorem append_cells {Y : Nat → Prop} {ob : Objs} {olds news : List V} {os ns : List Value} (h1 : os.length = olds.length) (h2 : ns.length = news.length)
    (hr1 : ∀ i (hi : i < olds.length), RepC w Y ρ ob (os.getD i undef) olds[i]) (hr2 : ∀ i (hi : i < news.length), RepC w Y ρ ob (ns.getD i undef) news[i])
    (ho1 : ∀ v ∈ os, v.oneCell' = true) (ho2 : ∀ v ∈ ns, v.oneCell' = true) (p : Nat → Bool) (i : Nat) (hi : i < (V.killL p (olds ++ news)).length) :
    ∃ c x, (os ++ ns)[i]? = some c ∧ RepC w Y ρ ob c x ∧ (V.killL p (olds ++ news))[i] = x.kill p ∧ c.oneCell' = true := by
  have hi2 : i < (olds ++ news).length := by rw [killL_eq] at hi; simpa using hi
  have e : (V.killL p (olds ++ news))[i] = ((olds ++ news)[i]).kill p := by simp only [killL_eq, List.getElem_map]
  rw [e]
  by_cases hlt : i < olds.length
  · have hlt2 : i < os.length := by omega
    refine ⟨os[i], _, by rw [List.getElem?_append_left hlt2]; simp [hlt2], ?_, rfl, ho1 _ (List.getElem_mem hlt2)⟩
    have := hr1 i hlt
    rw [show os.getD i undef = os[i] from by simp [List.getD, hlt2]] at this
    rw [List.getElem_append_left hlt]
    exact this
  · have hlt2 : i - olds.length < news.length := by simp at hi2; omega
    have hlt3 : i - os.length < ns.length := by omega
    refine ⟨ns[i - os.length], _, by rw [List.getElem?_append_right (by omega)]; simp [hlt3], ?_, rfl, ho2 _ (List.getElem_mem hlt3)⟩
    have := hr2 (i - olds.length) hlt2
    rw [show ns.getD (i - olds.length) undef = ns[i - os.length] from by rw [← h1]; simp [List.getD, hlt3]] at this
    rw [List.getElem_append_right (by omega)]
    exact this

theorem grownCap_le_max (w : World) (need old : Nat) (e : TypeId) (h : need ≤ 9223372036854775807) : grownCap w need old e ≤ maxLen := grownCap_le_maxLen w need old e (by simpa [maxLen] using h)

theorem does_append_src (h : Sat F s ρ a w) (o : Oper) (x y : Operand) (t tx e : TypeId) (he : o.op = .call { callee := .builtin .append, args := #[x, y], argTypes := #[t, tx] }) (hd : (ti P t).desc = .slice e)
    (K : AState → Prop) (hok : (ti P e).ok = true) (hzs : (ti P e).zero.length = (ti P e).size) (hp : 0 < (ti P e).size) {m : Nat} {news : List V} (hnl : news.length = m * (ti P e).size) {vs : List Value} (hvl : vs.length = news.length)
    (hvr : ∀ i (hi : i < news.length), RepC w (F.Y ρ s.ob) ρ s.ob (vs.getD i undef) news[i]) (hsrc : Src P (ti P e).size tx (a.eval y) m vs w)
    (hm : vApp (ti P e) s (s.ev x) m news o.dst K) : Does P F s ρ a w o K := by
  have hv1 := hsrc.one
  obtain ⟨i, z, hi, hz, hz2, hs, hby⟩ := zero_some hok (fun e => by rw [e] at hzs; simp at hzs; omega)
  have hzc : z.cells.size = i.size := by rw [hz2] at hzs; simpa [hs] using hzs
  have hu := ti_slice hd
  have hx := h.ev x
  have exec : ∀ (v : Value) (w' : World), (Builtin.append_ #[t, tx] o.type #[a.eval x, a.eval y]).run P w = .ok v w' → (execOp a.eval o).run P w = .ok (.value v) w' := by
    intro v w' hr
    unfold execOp
    simp [he, resolve, invoke, builtin, hr]
  generalize a.eval y = yv at hsrc exec
  rw [hs] at hsrc
  unfold vApp at hm
  split at hm
  case h_3 => exact hm.elim
  case h_1 l off len e1 =>
    obtain ⟨hk, hm⟩ := hm
    obtain ⟨o2, ho2, ⟨hesz, hfit⟩, ⟨hbytes, h63⟩, hf⟩ := vObj_live hm
    rw [e1] at hx
    have hl := live_lt ho2
    have hkF : F.k ≤ l := by rw [← h.k]; exact hk
    obtain ⟨⟨cur, te, hrow, hcs⟩, hbase, hcell⟩ := (h.heap.obj l o2 ho2).cells (by rw [hesz]; exact ti_ne hok)
    have hol : ((o2.cells.drop off).take (len * (ti P e).size)).length = len * (ti P e).size := by simp; omega
    -- the elder cells
    have hex : ∃ os : List Value, os.length = len * (ti P e).size ∧ (∀ j u, os[j]? = some u → w.cell? ⟨(ρ l).blk, (ρ l).base + (off + j), none⟩ = some u) ∧
        (∀ j (hj : j < ((o2.cells.drop off).take (len * (ti P e).size)).length), RepC w (F.Y ρ s.ob) ρ s.ob (os.getD j undef) ((o2.cells.drop off).take (len * (ti P e).size))[j]) ∧ (∀ v ∈ os, v.oneCell' = true) := by
      refine ⟨(List.range (len * (ti P e).size)).map (fun i => (w.cell? ⟨(ρ l).blk, (ρ l).base + (off + i), none⟩).getD undef), by simp, fun j u hu => ?_, fun j hj => ?_, fun v hv => ?_⟩
      · have hj : j < len * (ti P e).size := by
          have := (List.getElem?_eq_some_iff.1 hu).1
          simpa using this
        obtain ⟨c, h7, _, _⟩ := hcell (off + j) (by omega)
        simp [hj, h7] at hu
        subst hu
        exact h7
      · have hj2 : j < len * (ti P e).size := by omega
        obtain ⟨c, h7, h8, _⟩ := hcell (off + j) (by omega)
        have : ((List.range (len * (ti P e).size)).map (fun i => (w.cell? ⟨(ρ l).blk, (ρ l).base + (off + i), none⟩).getD undef)).getD j undef = c := by simp [List.getD, hj2, h7]
        rw [this]
        simpa using h8
      · simp only [List.mem_map, List.mem_range] at hv
        obtain ⟨j, hj, rfl⟩ := hv
        obtain ⟨c, h7, _, h8⟩ := hcell (off + j) (by omega)
        rw [h7]; exact h8
    obtain ⟨os, hosl, hosc, hosr, hos1⟩ := hex
    have cells := append_cells (w := w) (ρ := ρ) (Y := F.Y ρ s.ob) (ob := s.ob) (olds := (o2.cells.drop off).take (len * (ti P e).size)) (news := news) (by rw [hosl, hol]) hvl hosr hvr hos1 hv1 (killB l)
    have hnewlen : (V.killL (killB l) ((o2.cells.drop off).take (len * (ti P e).size) ++ news)).length = (len + m) * (ti P e).size := by
      rw [killL_eq]; simp only [List.length_map, List.length_append, hol, hnl, Nat.add_mul]
    -- where the row grows
    have growcase : ∀ (p sCap : Nat), len ≤ sCap → sCap < len + m → (len = 0 ∨ p = (ρ l).base + off) → a.eval x = .slice (some ⟨(ρ l).blk, p, none⟩) len sCap → Does P F s ρ a w o K := by
      intro p sCap hle0 hlt hp2 hxe
      have hold1 := run_firstCells_some (P := P) w.drew i.size len ⟨(ρ l).blk, p, none⟩ len sCap os (by rw [hosl, hs]) (fun j u hju => by
        rw [Addr.add_lit]
        have := hosc j u hju
        rcases hp2 with hp2 | hp2
        · subst hp2; simp at hosl; subst hosl; simp at hju
        · rw [hp2, Nat.add_assoc]; exact this)
      have hrun := run_append_grow_src (P := P) w t tx o.type e i z hu hi hz (some ⟨(ρ l).blk, p, none⟩) len sCap os hold1 yv m vs hsrc hlt (by omega) (growslice_fits hlt (by rw [← hby]; exact hbytes))
      rw [show (os ++ vs).toArray = os.toArray ++ vs.toArray by simp] at hrun
      have hcap := grownCap_ge w (len + m) sCap e
      have hcm := grownCap_le_max w (len + m) sCap e h63
      have hsz : (os.toArray ++ vs.toArray ++ Builtin.zeroCells z.cells (grownCap w (len + m) sCap e - (len + m))).size = grownCap w (len + m) sCap e * i.size := by
        simp only [Array.size_append, List.size_toArray, size_zeroCells, hzc, hosl, hvl, hnl, hs, ← Nat.add_mul]
        congr 1
        omega
      obtain ⟨hh, hτ⟩ := h.heap.place (w' := w.drew.alloc (.cells (os.toArray ++ vs.toArray ++ Builtin.zeroCells z.cells (grownCap w (len + m) sCap e - (len + m))) e)) hl hkF
        ⟨w.heap.size, 0, grownCap w (len + m) sCap e * i.size⟩ ⟨(ti P e).size, V.killL (killB l) ((o2.cells.drop off).take (len * (ti P e).size) ++ news)⟩ (ti_ne hok) rfl rfl rfl (by simp) (.inr (Nat.le_refl _))
        (fun b hb hne => heap_alloc_old w.drew _ b hb) ⟨_, e, heap_alloc_new w.drew _, hsz⟩ (by simp only; rw [hnewlen, hs, Nat.zero_add]; exact Nat.mul_le_mul_right _ hcap) (fun j hj => by
          obtain ⟨c', x', h1, h2, h3, h4⟩ := cells j hj
          refine ⟨c', x', ?_, h2, h3, h4⟩
          have hj2 : j < (os ++ vs).length := (List.getElem?_eq_some_iff.1 h1).1
          have := World.cell?_alloc_new w.drew (os.toArray ++ vs.toArray ++ Builtin.zeroCells z.cells (grownCap w (len + m) sCap e - (len + m))) e (0 + j)
          simp only [World.size_drew] at this
          rw [this, Nat.zero_add]
          rw [Array.getElem?_append_left (by simpa using hj2)]
          simpa using h1)
      have hsat : Sat F (s.grown l (ti P e).size ((o2.cells.drop off).take (len * (ti P e).size) ++ news)) _ a _ := h.of_heap (V.kill (killB l)) rfl hh (by simpa [trO] using h.kle) hτ
      have hlive : Live ((trO (V.kill (killB l)) s.ob).set l (some ⟨(ti P e).size, V.killL (killB l) ((o2.cells.drop off).take (len * (ti P e).size) ++ news)⟩)) l _ := live_set.2 (.inl ⟨rfl, by simp [trO]; exact hl, rfl⟩)
      have hres : RepC (w.drew.alloc (.cells (os.toArray ++ vs.toArray ++ Builtin.zeroCells z.cells (grownCap w (len + m) sCap e - (len + m))) e)) (F.Y (plNew ρ l ⟨w.heap.size, 0, grownCap w (len + m) sCap e * i.size⟩) (s.grown l (ti P e).size ((o2.cells.drop off).take (len * (ti P e).size) ++ news)).ob) (plNew ρ l ⟨w.heap.size, 0, grownCap w (len + m) sCap e * i.size⟩) (s.grown l (ti P e).size ((o2.cells.drop off).take (len * (ti P e).size) ++ news)).ob
          (.slice (some ⟨w.heap.size, 0, none⟩) (len + m) (grownCap w (len + m) sCap e)) (.ref l 0 (len + m)) := by
        have := RepC.ref (w := w.drew.alloc (.cells (os.toArray ++ vs.toArray ++ Builtin.zeroCells z.cells (grownCap w (len + m) sCap e - (len + m))) e)) (Y := F.Y (plNew ρ l ⟨w.heap.size, 0, grownCap w (len + m) sCap e * i.size⟩) (s.grown l (ti P e).size ((o2.cells.drop off).take (len * (ti P e).size) ++ news)).ob) (ρ := plNew ρ l ⟨w.heap.size, 0, grownCap w (len + m) sCap e * i.size⟩)
          (ob := (s.grown l (ti P e).size ((o2.cells.drop off).take (len * (ti P e).size) ++ news)).ob) (l := l) (off := 0) (len := len + m) (cap := grownCap w (len + m) sCap e) hlive (ti_ne hok) hcap hcm (by rw [plNew_same]; simp only [hs]; omega)
        rwa [plNew_same] at this
      obtain ⟨h1, h2⟩ := fin_sat hsat hf hres
      refine ⟨_, _, _, _, h1, h2, .inl (exec _ _ (by rw [hxe]; exact hrun)), ⟨by simp, fun b hb _ => heap_alloc_old w.drew _ _ hb, fun l' o' ho' => ?_⟩⟩
      rw [put_ob] at ho'
      rcases live_set.1 ho' with ⟨rfl, _, _⟩ | ⟨hne, ho'⟩
      · refine .inr ?_
        rw [plNew_same]; exact Nat.le_refl _
      · obtain ⟨o3, h3, _⟩ := live_trO.1 ho'
        exact .inl ⟨o3, h3, by rw [plNew_other _ _ _ hne]⟩
    -- where there is room
    have staycase : ∀ (p sCap : Nat), len + m ≤ sCap → ((len = 0 ∧ m = 0 ∧ sCap = 0) ∨ (p = (ρ l).base + off ∧ (ρ l).base + off + sCap * o2.esz ≤ (ρ l).size)) → sCap ≤ maxLen → a.eval x = .slice (some ⟨(ρ l).blk, p, none⟩) len sCap → Does P F s ρ a w o K := by
      intro p sCap hle hp2 hcm hxe
      have hmk : ∀ (w' : World) (cs : Array Value), w'.os = w.os → w'.tape = w.tape → w'.output = w.output → w'.heap.size = w.heap.size → (∀ b, b ≠ (ρ l).blk → w'.heap[b]? = w.heap[b]?) →
          w'.heap[(ρ l).blk]? = some (.cells cs te (0, 0)) → cs.size = cur.size → (∀ j c', (os ++ vs)[j]? = some c' → cs[(ρ l).base + (off + j)]? = some c') →
          (execOp a.eval o).run P w = .ok (.value (.slice (some ⟨(ρ l).blk, p, none⟩) (len + m) sCap)) w' → Does P F s ρ a w o K := by
        intro w' cs h1 h2 h3 h4 h5 h6 h7 h8 hrun
        have hfit2 : (ρ l).base + off + (len + m) * (ti P e).size ≤ (ρ l).size := by
          rcases hp2 with ⟨rfl, rfl, _⟩ | ⟨_, hp3⟩
          · simp; omega
          · rw [hesz] at hp3
            have := Nat.mul_le_mul_right (ti P e).size hle
            omega
        obtain ⟨hh, hτ⟩ := h.heap.place (w' := w') hl hkF ⟨(ρ l).blk, (ρ l).base + off, (ρ l).size⟩ ⟨(ti P e).size, V.killL (killB l) ((o2.cells.drop off).take (len * (ti P e).size) ++ news)⟩ (ti_ne hok) h1 h2 h3 (by omega)
          (.inl ⟨o2, ho2, rfl⟩) (fun b _ hne => h5 b hne) ⟨cs, te, h6, by rw [h7, hcs]⟩ (by simp only [hnewlen]; exact hfit2) (fun j hj => by
            obtain ⟨c', x', g1, g2, g3, g4⟩ := cells j hj
            refine ⟨c', x', ?_, g2, g3, g4⟩
            have := h8 j c' g1
            simp only [World.cell?, h6, Nat.add_assoc]
            simpa using this)
        have hsat : Sat F (s.grown l (ti P e).size ((o2.cells.drop off).take (len * (ti P e).size) ++ news)) _ a _ := h.of_heap (V.kill (killB l)) rfl hh (by simpa [trO] using h.kle) hτ
        have hlive : Live ((trO (V.kill (killB l)) s.ob).set l (some ⟨(ti P e).size, V.killL (killB l) ((o2.cells.drop off).take (len * (ti P e).size) ++ news)⟩)) l _ := live_set.2 (.inl ⟨rfl, by simp [trO]; exact hl, rfl⟩)
        have hres : RepC w' (F.Y (plNew ρ l ⟨(ρ l).blk, (ρ l).base + off, (ρ l).size⟩) (s.grown l (ti P e).size ((o2.cells.drop off).take (len * (ti P e).size) ++ news)).ob) (plNew ρ l ⟨(ρ l).blk, (ρ l).base + off, (ρ l).size⟩) (s.grown l (ti P e).size ((o2.cells.drop off).take (len * (ti P e).size) ++ news)).ob
            (.slice (some ⟨(ρ l).blk, p, none⟩) (len + m) sCap) (.ref l 0 (len + m)) := by
          rcases hp2 with ⟨rfl, rfl, rfl⟩ | ⟨rfl, hp3⟩
          · have := RepC.ref0 (w := w') (Y := F.Y (plNew ρ l ⟨(ρ l).blk, (ρ l).base + off, (ρ l).size⟩) (s.grown l (ti P e).size ((o2.cells.drop off).take (0 * (ti P e).size) ++ news)).ob) (ρ := plNew ρ l ⟨(ρ l).blk, (ρ l).base + off, (ρ l).size⟩)
              (ob := (s.grown l (ti P e).size ((o2.cells.drop off).take (0 * (ti P e).size) ++ news)).ob) (l := l) (off := 0) (p := p) hlive (ti_ne hok)
            rwa [plNew_same] at this
          · have := RepC.ref (w := w') (Y := F.Y (plNew ρ l ⟨(ρ l).blk, (ρ l).base + off, (ρ l).size⟩) (s.grown l (ti P e).size ((o2.cells.drop off).take (len * (ti P e).size) ++ news)).ob) (ρ := plNew ρ l ⟨(ρ l).blk, (ρ l).base + off, (ρ l).size⟩)
              (ob := (s.grown l (ti P e).size ((o2.cells.drop off).take (len * (ti P e).size) ++ news)).ob) (l := l) (off := 0) (len := len + m) (cap := sCap) hlive (ti_ne hok) hle hcm (by rw [plNew_same]; simp only; rw [hesz] at hp3; omega)
            rw [plNew_same] at this
            simpa using this
        obtain ⟨g1, g2⟩ := fin_sat hsat hf hres
        refine ⟨_, _, _, _, g1, g2, .inl hrun, ⟨by omega, fun b _ hn => h5 b (hn l o2 (by rw [he]; simp [wset, e1]) ho2), fun l' o' ho' => ?_⟩⟩
        rw [put_ob] at ho'
        rcases live_set.1 ho' with ⟨rfl, _, _⟩ | ⟨hne, ho'⟩
        · exact .inl ⟨o2, ho2, by rw [plNew_same]⟩
        · obtain ⟨o3, h3, _⟩ := live_trO.1 ho'
          exact .inl ⟨o3, h3, by rw [plNew_other _ _ _ hne]⟩
      have hold : ∀ j c', os[j]? = some c' → cur[(ρ l).base + (off + j)]? = some c' := by
        intro j c' hj
        have := hosc j c' hj
        simpa [World.cell?, hrow] using this
      by_cases hm0 : m = 0
      · subst hm0
        have hvs : vs = [] := List.eq_nil_of_length_eq_zero (by rw [hvl, hnl]; simp)
        subst hvs
        refine hmk w cur rfl rfl rfl rfl (fun _ _ => rfl) hrow rfl (fun j c' hj => hold j c' (by simpa using hj)) (exec _ _ ?_)
        rw [hxe]
        exact run_append_zero (P := P) w t tx o.type e i hu hi _ len sCap (by omega) yv _ hsrc
      · have hp3 : p = (ρ l).base + off ∧ (ρ l).base + off + sCap * o2.esz ≤ (ρ l).size := by
          rcases hp2 with ⟨_, h0, _⟩ | h0
          · exact absurd h0 hm0
          · exact h0
        obtain ⟨rfl, hp3⟩ := hp3
        rw [hesz] at hp3
        have hle2 := Nat.mul_le_mul_right (ti P e).size hle
        rw [Nat.add_mul] at hle2
        have hte : te = e ∨ True := .inr trivial
        have hfit3 : (ρ l).base + off + len * i.size + vs.length ≤ cur.size := by rw [hvl, hnl, ← hs, hcs]; omega
        have hst := run_storeCells_at P (ρ l).blk ((ρ l).base + off + len * i.size) te vs 0 cur w hrow (by simpa using hfit3) hv1
        simp only [Nat.add_zero] at hst
        have hrun : (Builtin.append_ #[t, tx] o.type #[.slice (some ⟨(ρ l).blk, (ρ l).base + off, none⟩) len sCap, yv]).run P w =
            .ok (.slice (some ⟨(ρ l).blk, (ρ l).base + off, none⟩) (len + m) sCap) (w.setRow (ρ l).blk (wr cur.toList ((ρ l).base + off + len * i.size) vs).toArray) := by
          rcases hsrc.kind with ⟨e', hk⟩ | hk <;> simp [Builtin.append_, run_underlying hu, run_underlying hk, sizeOf, typeInfo, hi, hsrc.len, hle, hsrc.cells, Addr.add_lit, hst, wr]
        refine hmk (w.setRow (ρ l).blk (wr cur.toList ((ρ l).base + off + len * i.size) vs).toArray) (wr cur.toList ((ρ l).base + off + len * i.size) vs).toArray rfl rfl rfl (by simp) (fun b hb => setRow_other w _ _ _ hb) (setRow_heap w _ cur _ te _ hrow) ?_ (fun j c' hj => ?_) (exec _ _ (by rw [hxe]; exact hrun))
        · simp only [List.size_toArray]; rw [length_wr _ _ _ (by simpa using hfit3)]; simp
        · have hw := get_wr cur.toList ((ρ l).base + off + len * i.size) vs (by simpa using hfit3) ((ρ l).base + (off + j))
          simp only [List.getElem?_toArray]
          rw [hw]
          by_cases hj2 : j < os.length
          · rw [if_pos (by rw [hosl, hs] at hj2; omega)]
            rw [List.getElem?_append_left hj2] at hj
            simpa using hold j c' hj
          · have hj3 : j < (os ++ vs).length := (List.getElem?_eq_some_iff.1 hj).1
            rw [if_neg (by rw [hosl, hs] at hj2; omega), if_pos (by simp at hj3; rw [hosl, hs] at hj3; omega)]
            rw [List.getElem?_append_right (by omega)] at hj
            rw [← hj]
            congr 1
            rw [hosl, hs]; omega
    generalize hxv : a.eval x = xv at hx
    cases hx with
    | d hx => cases hx
    | @ref l off len cap o3 ho3 _ h5 h6 h7 =>
      have eo : o3 = o2 := by unfold Live at ho2 ho3; rw [ho2] at ho3; cases ho3; rfl
      subst eo
      by_cases hroom : len + m ≤ cap
      · exact staycase _ cap hroom (.inr ⟨rfl, h7⟩) h6 hxv
      · exact growcase _ cap h5 (by omega) (.inr rfl) hxv
    | @ref0 l off o3 p ho3 _ =>
      by_cases hroom : 0 + m ≤ 0
      · exact staycase p 0 hroom (.inl ⟨rfl, by omega, rfl⟩) (Nat.zero_le _) hxv
      · exact growcase p 0 (Nat.le_refl _) (by omega) (.inl rfl) hxv
  case h_2 e1 =>
    rw [e1] at hx
    have hxe := sc_of hx
    obtain ⟨⟨hk, hm1⟩, ⟨hbytes, h63⟩, hf⟩ := hm
    have hrun := run_append_grow_src (P := P) w t tx o.type e i z hu hi hz none 0 0 [] (run_firstCells_none (P := P) w.drew i.size 0 0 0) yv m vs hsrc (by omega) (by omega) (growslice_fits (by omega) (by rw [← hby]; simpa using hbytes))
    rw [Nat.zero_add, List.nil_append] at hrun
    have hcap := grownCap_ge w m 0 e
    have hcm := grownCap_le_max w m 0 e h63
    have hd2 : Sat F s ρ a w.drew := h.grow ((Below.refl _ _).drew)
    have hn := hd2.newObj hk (vs.toArray ++ Builtin.zeroCells z.cells (grownCap w m 0 e - m)) e ⟨(ti P e).size, news⟩ (ti_ne hok) (by simp [hvl]) (fun j hj => by
      have hj2 : j < vs.length := by rw [hvl]; exact hj
      have h3 : (vs.toArray ++ Builtin.zeroCells z.cells (grownCap w m 0 e - m)).getD j undef = vs[j] := by
        rw [Array.getD_eq_getD_getElem?, Array.getElem?_append_left (by simpa using hj2)]
        simp [hj2]
      rw [h3]
      refine ⟨?_, hv1 _ (List.getElem_mem hj2)⟩
      have := (hvr j hj).grow (w' := w.drew) ((Below.refl _ _).drew)
      rwa [show vs.getD j undef = vs[j] from by simp [List.getD, hj2]] at this)
    obtain ⟨h1, h2⟩ := fin_sat hn hf (new_ref' (cap := grownCap w m 0 e) (ti_ne hok) hcap hcm (by
      simp only [Array.size_append, List.size_toArray, size_zeroCells, hzc, hvl, hnl, hs, ← Nat.add_mul]
      exact Nat.mul_le_mul_right _ (by omega)))
    exact ⟨_, _, _, _, h1, h2, .inl (exec _ _ (by rw [hxe]; exact hrun)), moved_alloc s ρ w w.drew rfl _ _ _ _ _⟩

theorem does_append (h : Sat F s ρ a w) (o : Oper) (x y : Operand) (t e : TypeId) (he : o.op = .call { callee := .builtin .append, args := #[x, y], argTypes := #[t, t] }) (hd : (ti P t).desc = .slice e)
    (K : AState → Prop) (hm : vAppend (ti P e) s (s.ev x) (s.ev y) o.dst K) : Does P F s ρ a w o K := by
  obtain ⟨⟨hok, hzs, hp⟩, hm⟩ := hm
  obtain ⟨m, news, hm, hnl, ad, c, hy, had, vs, hvl, hvr, hv1, hvc⟩ := news_rep h y _ _ hm
  refine does_append_src h o x y t t e he hd K hok hzs hp hnl hvl hvr ?_ hm
  rw [hy]
  cases ad with
  | none =>
    have hm0 := had rfl
    subst hm0
    have hvs : vs = [] := List.eq_nil_of_length_eq_zero (by rw [hvl, hnl]; simp)
    subst hvs
    exact Src.ofNil w (ti_slice hd) c
  | some ad' => exact Src.ofSlice w (ti_slice hd) ad' m c vs (by rw [hvl, hnl]) (hvc ad' rfl) hv1
theorem does_appendS (h : Sat F s ρ a w) (o : Oper) (x y : Operand) (t u : TypeId) (he : o.op = .call { callee := .builtin .append, args := #[x, y], argTypes := #[t, u] })
    (K : AState → Prop) (hm : vAppS P (ti P t).desc (ti P u).desc s (s.ev x) (s.ev y) o.dst K) : Does P F s ρ a w o K := by
  unfold vAppS at hm
  split at hm
  case h_2 => exact hm.elim
  rename_i e hd hu
  unfold vAppT at hm
  split at hm
  case h_2 => exact hm.elim
  rename_i z hz
  obtain ⟨⟨hok, hzs, h1⟩, hm⟩ := hm
  have hy := h.ev y
  rw [hz] at hy
  have hyv := sc_of hy
  have hn : (strB z).length = z.size := length_strB z
  refine does_append_src h o x y t u e he hd K hok hzs (by omega) (m := z.size) (news := strB z) (vs := byteCells z) (by rw [h1]; omega) (by rw [hn]; exact byteCells_length z) (fun i hi => ?_) ?_ hm
  · have hi2 : i < z.data.toList.length := by rw [hn] at hi; simpa using hi
    have e1 : (byteCells z).getD i undef = .int .u8 (z.data.toList[i]).toNat := by unfold byteCells; simp [List.getD]; rw [Array.getElem?_eq_getElem (by simpa using hi2)]; simp
    have e2 : (strB z)[i] = V.sc (.int .u8 (z.data.toList[i]).toNat) := by simp only [strB, List.getElem_map]
    rw [e1, e2]
    exact .d (.sc _)
  · rw [hyv, h1]
    exact Src.ofString w (ti_string hu) z

end
end Go.AG

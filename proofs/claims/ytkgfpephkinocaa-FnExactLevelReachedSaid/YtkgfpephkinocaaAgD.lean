/-
  AG, part D: the operations that only read, on abstract values, and that the model's operations do just that. Conditions: none.
-/
import Derived.Test.YtkgfpephkinocaaAgC
import Derived.Laws.Entries
import Derived.Laws.Slices
import Derived.Laws.Strings
import Derived.Laws.Cover1
import Derived.Laws.Cells
import Derived.Laws.Tables
set_option linter.unusedSimpArgs false
set_option linter.unusedVariables false
namespace Go.AG
open Go.RowKit

inductive AD where
  | other | bool | string | func
  | int (k : IntKind)
  | slice (e : TypeId)
  | pointer (e : TypeId)
  | struct (fs : List (Nat × TypeId))
  | array (n : Nat) (e : TypeId)

structure TI where
  ok : Bool
  desc : AD
  size : Nat
  bytes : Nat
  zero : List Value

def adOf : TypeDesc → AD
  | .bool => .bool
  | .int k => .int k
  | .string => .string
  | .slice e => .slice e
  | .pointer e => .pointer e
  | .struct fs => .struct (fs.toList.map fun f => (f.offset, f.type))
  | .array n e => .array n e
  | .func .. => .func
  | _ => .other

/-- what a program says of a type -/
def ti (P : Program) (t : TypeId) : TI :=
  match P.info? t, P.underlying t with
  | some i, some d => ⟨true, adOf d, i.size, i.bytes, match i.zero with | some z => z.cells.toList | none => []⟩
  | _, _ => ⟨false, .other, 0, 0, []⟩

def AD.agg : AD → Bool
  | .struct _ => true
  | .array _ _ => true
  | _ => false

/-- a condition, then the rest -/
def grd (c : Prop) (p : Prop) : Prop := c ∧ p
theorem grd_of {c : Prop} (h : c) (p : Prop) : grd c p = p := by simp [grd, h]
theorem grd_intro {c p : Prop} (h : c) (hp : p) : grd c p := ⟨h, hp⟩

def vcells : V → List V
  | .agg xs => xs
  | x => [x]

def vPick (c x y : V) (K : V → Prop) : Prop := match c with
  | .sc (.bool true) => K x
  | .sc (.bool false) => K y
  | _ => False

/-- what lies at a place of a list of cells -/
def vAt (xs : List V) (off : Nat) (K : V → Prop) : Prop := match xs[off]? with
  | some x => K x
  | none => False

def vPart (agg : Bool) (size : Nat) (xs : List V) (off : Nat) (K : V → Prop) : Prop :=
  match agg with
  | true => grd (off + size ≤ xs.length) (K (.agg ((xs.drop off).take size)))
  | false => vAt xs off K

def vObj (ob : Objs) (l : Nat) (K : Ob → Prop) : Prop := match ob[l]? with
  | some (some o) => K o
  | _ => False

def vLoad (t : TI) (x : V) (ob : Objs) (K : V → Prop) : Prop := match x with
  | .ip xs off => grd (t.ok = true) (vPart t.desc.agg t.size xs off K)
  | .ptr l off => grd (t.ok = true) (vObj ob l fun o => vPart t.desc.agg t.size o.cells off K)
  | _ => False

def vNil (x : V) (K : V → Prop) : Prop := match x with
  | .ip xs off => K (.ip xs off)
  | .ptr l off => K (.ptr l off)
  | .fn f caps => K (.fn f caps)
  | _ => False

def vFieldAddr (P : Program) (d : AD) (x : V) (f : Nat) (K : V → Prop) : Prop := match d with
  | .struct fs => match fs[f]? with
    | some (o, t) => grd ((ti P t).ok = true ∧ (ti P t).size ≠ 0) (match x with
      | .ip xs off => K (.ip xs (off + o))
      | .ptr l off => K (.ptr l (off + o))
      | _ => False)
    | none => False
  | _ => False

def vField (P : Program) (d : AD) (x : V) (f : Nat) (K : V → Prop) : Prop := match d, x with
  | .struct fs, .agg xs => match fs[f]? with
    | some (o, t) => grd ((ti P t).ok = true) (vPart (ti P t).desc.agg (ti P t).size xs o K)
    | none => False
  | _, _ => False

def vIdxAddr (P : Program) (d : AD) (x i : V) (K : V → Prop) : Prop := match d, i with
  | .slice e, .sc (.int _ n) => match x with
    | .sl len xs => grd ((ti P e).ok = true ∧ 0 ≤ n ∧ n < len) (K (.ip xs (n.toNat * (ti P e).size)))
    | .ref l off len => grd ((ti P e).ok = true ∧ 0 ≤ n ∧ n < len) (K (.ptr l (off + n.toNat * (ti P e).size)))
    | _ => False
  | .array m e, .sc (.int _ n) => match x with
    | .ip xs off => grd ((ti P e).ok = true ∧ 0 ≤ n ∧ n < m) (K (.ip xs (off + n.toNat * (ti P e).size)))
    | .ptr l off => grd ((ti P e).ok = true ∧ 0 ≤ n ∧ n < m) (K (.ptr l (off + n.toNat * (ti P e).size)))
    | _ => False
  | _, _ => False

/-- a letter of a text, as a number -/
def byteAt (s : ByteArray) (n : Nat) : Int := ((s.data.toList.getD n 0).toNat : Int)

def vIdx (P : Program) (d : AD) (x i : V) (K : V → Prop) : Prop := match d, x, i with
  | .string, .sc (.string s), .sc (.int _ n) => grd (0 ≤ n ∧ n < (s.size : Int)) (K (.sc (.int .u8 (byteAt s n.toNat))))
  | _, _, _ => False

def vExtract (x : V) (i : Nat) (K : V → Prop) : Prop := match x with
  | .tup xs => vAt xs i K
  | _ => False

def boundV (x : Option V) (dflt : Int) (K : Int → Prop) : Prop := match x with
  | none => K dflt
  | some (.sc (.int _ n)) => K n
  | _ => False

def vSlice (P : Program) (ob : Objs) (d : AD) (x : V) (lo hi : Option V) (K : V → Prop) : Prop := match d with
  | .slice e => match x with
    | .sl len xs => boundV lo 0 fun l => boundV hi len fun h => grd ((ti P e).ok = true ∧ 0 ≤ l ∧ l ≤ h ∧ h ≤ len) (K (.sl (h - l).toNat ((xs.drop (l.toNat * (ti P e).size)).take ((h - l).toNat * (ti P e).size))))
    | .ref o off len => boundV lo 0 fun l => boundV hi len fun h => grd ((ti P e).ok = true ∧ 0 ≤ l ∧ l ≤ h ∧ h ≤ len) (vObj ob o fun q => grd (q.esz = (ti P e).size) (K (.ref o (off + l.toNat * (ti P e).size) (h - l).toNat)))
    | _ => False
  | .string => match x with
    | .sc (.string s) => boundV lo 0 fun l => boundV hi s.size fun h => grd (0 ≤ l ∧ l ≤ h ∧ h ≤ s.size) (K (.sc (.string (s.extract l.toNat h.toNat))))
    | _ => False
  | _ => False

/-- an operator on two scalars -/
def sbin (d : AD) (op : BinOp) (a b : Value) : Option Value := match op, a, b with
  | .shl, .int k x, .int _ y => if y < 0 then none else some (.int k (k.wrap (x * 2 ^ (min y.toNat k.bits))))
  | .shr, .int k x, .int _ y => if y < 0 then none else some (.int k (x.fdiv (2 ^ (min y.toNat k.bits))))
  | op, .int k x, .int k' y => if k ≠ k' then none else match op with
    | .add => some (.int k (k.wrap (x + y)))
    | .sub => some (.int k (k.wrap (x - y)))
    | .mul => some (.int k (k.wrap (x * y)))
    | .quo => if y = 0 then none else some (.int k (k.wrap (x.tdiv y)))
    | .rem => if y = 0 then none else some (.int k (x.tmod y))
    | .and => some (.int k (bits .and k x y))
    | .or => some (.int k (bits .or k x y))
    | .xor => some (.int k (bits .xor k x y))
    | .eql => some (.bool (x == y))
    | .neq => some (.bool (x != y))
    | .lss => some (.bool (x < y))
    | .leq => some (.bool (x ≤ y))
    | .gtr => some (.bool (x > y))
    | .geq => some (.bool (x ≥ y))
    | _ => none
  | .add, .string x, .string y => if x.size + y.size ≤ 9223372036854775807 then some (.string (x ++ y)) else none
  | .eql, .string x, .string y => some (.bool (x.toList == y.toList))
  | .neq, .string x, .string y => some (.bool !(x.toList == y.toList))
  | .lss, .string x, .string y => some (.bool (Op.bytesLess x.toList y.toList))
  | .leq, .string x, .string y => some (.bool (Op.bytesLess x.toList y.toList || x.toList == y.toList))
  | .gtr, .string x, .string y => some (.bool !(Op.bytesLess x.toList y.toList || x.toList == y.toList))
  | .geq, .string x, .string y => some (.bool !(Op.bytesLess x.toList y.toList))
  | .eql, .bool x, .bool y => match d with | .bool => some (.bool (x == y)) | _ => none
  | .neq, .bool x, .bool y => match d with | .bool => some (.bool !(x == y)) | _ => none
  | _, _, _ => none

def vBin (d : AD) (op : BinOp) (x y : V) (K : V → Prop) : Prop := match x, y with
  | .sc a, .sc b => match sbin d op a b with
    | some c => K (.sc c)
    | none => False
  | _, _ => False

def vUn (op : UnOp) (x : V) (K : V → Prop) : Prop := match op, x with
  | .not, .sc (.bool b) => K (.sc (.bool !b))
  | .neg, .sc (.int k n) => K (.sc (.int k (k.wrap (0 - n))))
  | _, _ => False

def vConv (s d : AD) (x : V) (K : V → Prop) : Prop := match s, d, x with
  | .int _, .int k, .sc (.int _ n) => K (.sc (.int k (k.wrap n)))
  | .string, .string, .sc (.string b) => K (.sc (.string b))
  | _, _, _ => False

def vLen (d : AD) (x : V) (K : V → Prop) : Prop := match d with
  | .slice _ => match x with
    | .sl len _ => K (.sc (.int .i64 len))
    | .ref _ _ len => K (.sc (.int .i64 len))
    | .sc (.slice _ n _) => K (.sc (.int .i64 n))
    | _ => False
  | .string => match x with
    | .sc (.string s) => K (.sc (.int .i64 s.size))
    | _ => False
  | .array n _ => K (.sc (.int .i64 n))
  | _ => False

def vMin2 (x y : V) (K : V → Prop) : Prop := match x, y with
  | .sc (.int k a), .sc (.int k' b) => K (.sc (.int k (if b < a then b else a)))
  | _, _ => False
def vMax2 (x y : V) (K : V → Prop) : Prop := match x, y with
  | .sc (.int k a), .sc (.int k' b) => K (.sc (.int k (if b > a then b else a)))
  | _, _ => False

def vFold (f : V → V → (V → Prop) → Prop) (x : V) : List V → (V → Prop) → Prop
  | [], K => K x
  | y :: r, K => f x y fun z => vFold f z r K

/-- the operations that only read -/
def qop (P : Program) (s : AState) (op : Op) (K : V → Prop) : Prop :=
  match op with
  | .move x => K (s.ev x)
  | .assign x => K (s.ev x)
  | .pick c a b => vPick (s.ev c) (s.ev a) (s.ev b) K
  | .load t a => vLoad (ti P t) (s.ev a) s.ob K
  | .nilCheck x => vNil (s.ev x) K
  | .binOp op t x y _ => vBin (ti P t).desc op (s.ev x) (s.ev y) K
  | .unOp op _ x => vUn op (s.ev x) K
  | .convert a b x => vConv (ti P a).desc (ti P b).desc (s.ev x) K
  | .fieldAddr t x f => vFieldAddr P (ti P t).desc (s.ev x) f K
  | .field t x f => vField P (ti P t).desc (s.ev x) f K
  | .indexAddr t x i => vIdxAddr P (ti P t).desc (s.ev x) (s.ev i) K
  | .index t x i => vIdx P (ti P t).desc (s.ev x) (s.ev i) K
  | .slice t x lo hi none => vSlice P s.ob (ti P t).desc (s.ev x) (lo.map s.ev) (hi.map s.ev) K
  | .extract x i => vExtract (s.ev x) i K
  | .makeFunc (.func f) first caps => grd (first = #[]) (K (.fn f (caps.toList.map s.ev)))
  | .call { callee := .builtin .len, args, argTypes } => match args.toList, argTypes.toList with
    | [x], [t] => vLen (ti P t).desc (s.ev x) K
    | _, _ => False
  | .call { callee := .builtin .min, args, argTypes := _ } => match args.toList with
    | x :: r => vFold vMin2 (s.ev x) (r.map s.ev) K
    | [] => False
  | .call { callee := .builtin .max, args, argTypes := _ } => match args.toList with
    | x :: r => vFold vMax2 (s.ev x) (r.map s.ev) K
    | [] => False
  | _ => False

/-! ### what the program's tables say -/

theorem ti_ok {P : Program} {t : TypeId} (h : (ti P t).ok = true) : ∃ i d, P.info? t = some i ∧ P.underlying t = some d ∧ (ti P t).desc = adOf d ∧ (ti P t).size = i.size ∧ (ti P t).bytes = i.bytes ∧
    (ti P t).zero = match i.zero with | some z => z.cells.toList | none => [] := by
  unfold ti at *
  cases hi : P.info? t with
  | none => simp [hi] at h
  | some i =>
    cases hu : P.underlying t with
    | none => simp [hi, hu] at h
    | some d => exact ⟨i, d, rfl, rfl, rfl, rfl, rfl, rfl⟩

theorem ti_desc {P : Program} {t : TypeId} (h : (ti P t).desc ≠ .other) : (ti P t).ok = true := by
  unfold ti at *
  cases hi : P.info? t with
  | none => simp [hi] at h
  | some i =>
    cases hu : P.underlying t with
    | none => simp [hi, hu] at h
    | some d => rfl

theorem ti_slice {P : Program} {t e : TypeId} (h : (ti P t).desc = .slice e) : P.underlying t = some (.slice e) := by
  obtain ⟨i, d, _, hu, hd, _⟩ := ti_ok (P := P) (t := t) (ti_desc (by rw [h]; simp))
  rw [h] at hd
  cases d <;> simp [adOf] at hd; subst hd; exact hu
theorem ti_string {P : Program} {t : TypeId} (h : (ti P t).desc = .string) : P.underlying t = some .string := by
  obtain ⟨i, d, _, hu, hd, _⟩ := ti_ok (P := P) (t := t) (ti_desc (by rw [h]; simp))
  rw [h] at hd
  cases d <;> simp [adOf] at hd; exact hu
theorem ti_bool {P : Program} {t : TypeId} (h : (ti P t).desc = .bool) : P.underlying t = some .bool := by
  obtain ⟨i, d, _, hu, hd, _⟩ := ti_ok (P := P) (t := t) (ti_desc (by rw [h]; simp))
  rw [h] at hd
  cases d <;> simp [adOf] at hd; exact hu
theorem ti_int {P : Program} {t : TypeId} {k : IntKind} (h : (ti P t).desc = .int k) : P.underlying t = some (.int k) := by
  obtain ⟨i, d, _, hu, hd, _⟩ := ti_ok (P := P) (t := t) (ti_desc (by rw [h]; simp))
  rw [h] at hd
  cases d <;> simp [adOf] at hd; subst hd; exact hu
theorem ti_array {P : Program} {t : TypeId} {n : Nat} {e : TypeId} (h : (ti P t).desc = .array n e) : P.underlying t = some (.array n e) := by
  obtain ⟨i, d, _, hu, hd, _⟩ := ti_ok (P := P) (t := t) (ti_desc (by rw [h]; simp))
  rw [h] at hd
  cases d <;> simp [adOf] at hd; obtain ⟨rfl, rfl⟩ := hd; exact hu
theorem ti_struct {P : Program} {t : TypeId} {fs : List (Nat × TypeId)} (h : (ti P t).desc = .struct fs) :
    ∃ fields, P.underlying t = some (.struct fields) ∧ fs = fields.toList.map fun f => (f.offset, f.type) := by
  obtain ⟨i, d, _, hu, hd, _⟩ := ti_ok (P := P) (t := t) (ti_desc (by rw [h]; simp))
  rw [h] at hd
  cases d <;> simp [adOf] at hd; exact ⟨_, hu, hd⟩

theorem run_sizeOf_ti {P : Program} {t : TypeId} (h : (ti P t).ok = true) (w : World) : (sizeOf t).run P w = .ok (ti P t).size w := by
  obtain ⟨i, d, hi, hu, hd, hs, _⟩ := ti_ok h
  rw [hs]
  simp [sizeOf, typeInfo, hi]

theorem run_isAgg_ti {P : Program} {t : TypeId} (h : (ti P t).ok = true) (w : World) : (isAgg t).run P w = .ok (ti P t).desc.agg w := by
  obtain ⟨i, d, hi, hu, hd, _⟩ := ti_ok h
  rw [hd]
  simp only [isAgg, Sem.run_bind, run_underlying hu, Result.andThen_ok]
  cases d <;> simp [adOf, AD.agg]

end Go.AG

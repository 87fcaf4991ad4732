/-
  AG, merged parts R S U V X Y Z. Conditions: none.
-/
import Derived.Test.YtjgjnedenapemaaGreatDoorAgQ
/-
  AG, part R: a contract's result may be weakened (nil read as the slice without elements), in a tuple too; the rows that the laws' marks leave. Conditions: none.
-/
set_option linter.unusedSimpArgs false
set_option linter.unusedVariables false
namespace Go.AG
open Go.RowKit

def leR (r r' : V) : Prop := V.le r r' ∨ ∃ xs ys, r = .tup xs ∧ r' = .tup ys ∧ xs.length = ys.length ∧ ∀ i (h : i < xs.length) (h' : i < ys.length), V.le xs[i] ys[i]

theorem RepC.leT {w : World} {Y : Nat → Prop} {ρ : Nat → Pl} {ob : Objs} {v : Value} {x y : V} (h : RepC w Y ρ ob v x) (hl : leR x y) : RepC w Y ρ ob v y := by
  rcases hl with hl | ⟨xs, ys, rfl, rfl, hn, hl⟩
  · exact h.le hl
  · cases h with
    | d h => cases h
    | tup hs hr => exact .tup (by rw [hs, hn]) fun i hi => (hr i (by omega)).le (hl i (by omega) hi)

theorem ACalls.leT {P : Program} {f : FuncId} {args : List V} {ob : Objs} {Q Q' : V → Objs → Prop} (h : ACalls P f args ob Q) (hq : ∀ r o, Q r o → ∃ r', leR r r' ∧ Q' r' o) : ACalls P f args ob Q' :=
  ⟨h.1, fun w X ρ vs h0 h1 h2 h3 => (h.2 w X ρ vs h0 h1 h2 h3).mono fun e w' ⟨v, r, o, ρ', he, hQ, hh, hr⟩ => by
    obtain ⟨r', hl, hQ'⟩ := hq r o hQ
    exact ⟨v, r', o, ρ', he, hQ', hh, hr.leT hl⟩⟩

theorem leR_nil2 (c : V) : leR (.tup [.sc (.slice none 0 0), c]) (.tup [.sl 0 [], c]) := by
  refine .inr ⟨_, _, rfl, rfl, rfl, fun i h h' => ?_⟩
  match i, h with
  | 0, _ => exact .inr (.inr ⟨rfl, rfl⟩)
  | 1, _ => exact .inl rfl
theorem leR_refl (x : V) : leR x x := .inl (.inl rfl)

def upto (n : Nat) : List Int := (List.range n).map fun (i : Nat) => (i : Int) + 1
@[go_sem] theorem length_upto (n : Nat) : (upto n).length = n := by simp [upto]
theorem gi_upto (n i : Nat) (h : i < n) : gi (upto n) i = (i : Int) + 1 := by rw [gi_lt _ _ (by simpa [upto] using h)]; simp [upto]
theorem upto_succ (n : Nat) : upto (n + 1) = upto n ++ [(n : Int) + 1] := by simp [upto, List.range_succ]
@[go_sem] theorem take_upto (n : Nat) : (upto n).take n = upto n := List.take_of_length_le (by rw [length_upto]; exact Nat.le_refl _)
theorem upto_zero : upto 0 = [] := by simp [upto]
/-- one more element of a row is written, from the left -/
theorem set_grow (ys xs : List Int) (k : Nat) (n : Int) (h : ys.length = k) (hk : k < xs.length) : (ys ++ xs.drop k).set k n = (ys ++ [n]) ++ xs.drop (k + 1) := by
  subst h
  rw [List.set_append, if_neg (by omega), Nat.sub_self, List.drop_eq_getElem_cons hk, List.set_cons_zero, List.append_assoc]
  rfl
@[go_sem] theorem wr_rep1 (z n : Int) : wr (List.replicate 1 z) 0 [n] = [n] := _root_.id rfl
@[go_sem] theorem length_one (n : Int) : [n].length = 1 := _root_.id rfl
@[go_sem] theorem take_take_self (xs : List Int) (k : Nat) : (xs.take k).take k = xs.take k := by rw [List.take_take, Nat.min_self]
theorem drop_gi (xs : List Int) (k : Nat) (h : k < xs.length) : xs.drop k = [gi xs k] ++ xs.drop (k + 1) := by
  rw [List.drop_eq_getElem_cons h, gi_lt xs k h]; rfl
def plS (P : Program) (fs : List (Nat × TypeId)) (i : Nat) : Option (Nat × Nat) := (fs.map fun f => (f.1, (ti P f.2).size))[i]?
@[go_sem] theorem plS_zero (P : Program) (q : Nat × TypeId) (fs : List (Nat × TypeId)) : plS P (q :: fs) 0 = some (q.1, (ti P q.2).size) := _root_.id rfl
@[go_sem] theorem plS_succ (P : Program) (q : Nat × TypeId) (fs : List (Nat × TypeId)) (i : Nat) : plS P (q :: fs) (i + 1) = plS P fs i := _root_.id rfl
@[go_sem] theorem vBuildD_struct (P : Program) (ok : Bool) (fs : List (Nat × TypeId)) (size bytes : Nat) (zero : List Value) (s : AState) (parts : List (Nat × V)) (d : Option Nat) (K : AState → Prop) :
    vBuildD P ⟨ok, .struct fs, size, bytes, zero⟩ s parts d K = grd (ok = true ∧ zero ≠ [] ∧ zero.all Value.oneCell' = true) (grd ((fs.all fun f => (ti P f.2).ok) = true)
      (vFill (plS P fs) (zero.map V.sc) parts fun cells => fin d K s (.agg cells))) := _root_.id rfl
@[congr] theorem vBuildD_congr {P : Program} {t t' : TI} {s s' : AState} {ps ps' : List (Nat × V)} {d : Option Nat} {K : AState → Prop} (ht : t = t') (hs : s = s') (hp : ps = ps') : vBuildD P t s ps d K = vBuildD P t' s' ps' d K := by rw [ht, hs, hp]
@[go_sem] theorem wr_cons0 (x y : V) (xs ys : List V) : wr (x :: xs) 0 (y :: ys) = y :: wr xs 0 ys := by simp [wr]
@[go_sem] theorem wr_nil0 (xs : List V) : wr xs 0 [] = xs := by simp [wr]
attribute [go_sem] List.all_cons List.all_nil List.map_cons List.map_nil
def getL (s : AState) (sl : List (Nat × V)) : List V := sl.map fun q => s.get q.1
@[go_sem] theorem getL_nil (s : AState) : getL s [] = [] := _root_.id rfl
@[go_sem] theorem getL_cons (s : AState) (t : Nat) (x : V) (r : List (Nat × V)) : getL s ((t, x) :: r) = s.get t :: getL s r := _root_.id rfl
@[go_sem] theorem leP_mk (n k n' k' : Nat) (sl sl' : List (Nat × V)) (ob ob' : Objs) : leP ⟨n, k, sl, ob⟩ ⟨n', k', sl', ob'⟩ = (n = n' ∧ k = k' ∧ k ≤ ob.length ∧
  vRet k ob (.tup (getL ⟨n, k, sl, ob⟩ sl')) fun r ob2 => ∃ xs, r = .tup xs ∧ leS ⟨n, k, (sl'.map (·.1)).zip xs, ob2⟩ ⟨n', k', sl', ob'⟩) := _root_.id rfl
@[go_sem] theorem ex_tup (L : List V) (p : List V → Prop) : (∃ xs, V.tup L = .tup xs ∧ p xs) = p L := by
  apply propext
  constructor
  · rintro ⟨xs, h, hp⟩; cases h; exact hp
  · intro hp; exact ⟨L, rfl, hp⟩
attribute [go_sem] List.zip_cons_cons List.zip_nil_left
theorem iS_live {ob : Objs} (l : Nat) (o : Ob) (h : ob[l]? = some (some o)) : Live ob l o := h
end Go.AG

/-
  AG, part S: rows of rows of numbers, as cells. Conditions: none.
-/
set_option linter.unusedSimpArgs false
set_option linter.unusedVariables false
namespace Go.AG
open Go.RowKit

/-- rows of numbers, as cells -/
def rws (xs : List (List Int)) : List V := xs.map iS
def gr (xs : List (List Int)) (i : Nat) : List Int := xs.getD i []
@[go_sem] theorem length_rws (xs : List (List Int)) : (rws xs).length = xs.length := by simp [rws]
@[go_sem] theorem rws_append (xs ys : List (List Int)) : rws xs ++ rws ys = rws (xs ++ ys) := by simp [rws]
theorem rws_one (x : List Int) : [V.sl x.length (ints x)] = rws [x] := rfl
@[go_sem] theorem rws_snoc (xs : List (List Int)) (x : List Int) : rws xs ++ [V.sl x.length (ints x)] = rws (xs ++ [x]) := by simp [rws, iS]
@[go_sem] theorem rws_take_all (xs : List (List Int)) (n : Nat) (h : xs.length ≤ n) : (rws xs).take n = rws xs := by rw [List.take_of_length_le (by simpa [rws] using h)]
@[go_sem] theorem vAt_rws (xs : List (List Int)) (i : Nat) (K : V → Prop) : vAt (rws xs) i K = grd (i < xs.length) (K (.sl (gr xs i).length (ints (gr xs i)))) := by
  by_cases h : i < xs.length <;> simp [vAt, rws, gr, h, grd, iS]
@[go_sem] theorem imm_rws (xs : List (List Int)) : V.immL (rws xs) = true := by
  induction xs with
  | nil => rfl
  | cons x xs ih => simpa [rws, V.immL, V.imm, iS, imm_ints] using ih
@[go_sem] theorem one_rws (xs : List (List Int)) : V.oneL (rws xs) = true := by
  induction xs with
  | nil => rfl
  | cons x xs ih => simpa [rws, V.oneL, V.one, iS] using ih
@[go_sem] theorem noref_rws (xs : List (List Int)) : V.norefL (rws xs) = true := by
  induction xs with
  | nil => rfl
  | cons x xs ih => simpa [rws, V.norefL, V.noref, iS] using ih
@[go_sem] theorem kill_rws (p : Nat → Bool) (xs : List (List Int)) : V.killL p (rws xs) = rws xs := by simp [killL_eq, rws, V.kill, iS]
@[go_sem] theorem frz_rws (f : Nat → Option Ob) (xs : List (List Int)) : V.frzL f (rws xs) = rws xs := by simp [frzL_eq, rws, V.frz, iS]
@[go_sem] theorem ren_rws (g : Nat → Nat) (xs : List (List Int)) : V.renL g (rws xs) = rws xs := by simp [renL_eq, rws, V.ren, iS]
@[go_sem] theorem wr_rep1V (z x : V) : wr (List.replicate 1 z) 0 [x] = [x] := _root_.id rfl
@[go_sem] theorem ints_rep0 (z : Int) : ints (List.replicate 0 z) = [] := _root_.id rfl
theorem again_new_frz {α : Type} {p : α → Prop} {I : α → AState} {μ : α → Nat} {x : α} {Q : Exit → AState → Prop} {s s1 : AState} (x' : α) (hp : p x') (h : μ x' < μ x) (hf : Frz s s1) (hl : leP s1 (I x')) : loopK p I μ x Q .normal s := ⟨x', hp, h, s1, hf, .inr hl⟩
theorem vcLoop_new {P : Program} {c : Code} {Q : Exit → AState → Prop} {s s1 : AState} {α : Type} (p : α → Prop) (I : α → AState) (μ : α → Nat) (x0 : α) (hf : Frz s s1) (hp : p x0) (h0 : leP s1 (I x0)) (h : ∀ x, p x → vc P c (loopK p I μ x Q) (I x)) : vcLoop P c Q s := ⟨Q, .inl rfl, α, p, I, μ, x0, hp, ⟨s1, hf, .inr h0⟩, h⟩
end Go.AG

/-
  AG, part U: further rules for simp: conversions, shifts. Conditions: none.
-/
set_option linter.unusedSimpArgs false
set_option linter.unusedVariables false
namespace Go.AG
open Go.RowKit

@[go_sem] theorem wrap_u64_id (x : Int) (h : 0 ≤ x ∧ x ≤ 18446744073709551615) : IntKind.wrap .u64 x = x := by
  unfold IntKind.wrap; simp [IntKind.signed, IntKind.bits]; omega
@[go_sem] theorem wrap_u8_id (x : Int) (h : 0 ≤ x ∧ x ≤ 255) : IntKind.wrap .u8 x = x := by
  unfold IntKind.wrap; simp [IntKind.signed, IntKind.bits]; omega
@[go_sem] theorem wrap_u32_id (x : Int) (h : 0 ≤ x ∧ x ≤ 4294967295) : IntKind.wrap .u32 x = x := by
  unfold IntKind.wrap; simp [IntKind.signed, IntKind.bits]; omega
@[go_sem] theorem wrap_i32_id (x : Int) (h : -2147483648 ≤ x ∧ x ≤ 2147483647) : IntKind.wrap .i32 x = x := by
  unfold IntKind.wrap; simp [IntKind.signed, IntKind.bits]; omega
@[go_sem] theorem min_left (a b : Nat) (h : a ≤ b) : min a b = a := Nat.min_eq_left h
attribute [go_sem] Nat.le_refl Int.le_refl
@[go_sem] theorem map_frz (f : Nat → Option Ob) (xs : List V) : List.map (V.frz f) xs = V.frzL f xs := (frzL_eq f xs).symm
@[go_sem] theorem elem_c (a b : Nat) (l : List Nat) : List.elem a (b :: l) = (decide (a = b) || List.elem a l) := by
  by_cases h : a = b <;> simp [h]
@[go_sem] theorem or_f (b : Bool) : (false || b) = b := Bool.false_or b
@[go_sem] theorem or_t (b : Bool) : (true || b) = true := Bool.true_or b
@[go_sem] theorem not_f : (!false) = true := _root_.id rfl
@[go_sem] theorem toNat_cast (k : Nat) : (k : Int).toNat = k := Int.toNat_natCast k
theorem bits_and_255 (x : Int) : 0 ≤ Go.bits .and .u64 x 255 ∧ Go.bits .and .u64 x 255 ≤ 255 := by
  have h : ∀ a : BitVec 64, (a &&& BitVec.ofInt 64 255).toNat ≤ 255 := fun a => by
    rw [BitVec.toNat_and]
    exact Nat.le_trans Nat.and_le_right (by decide)
  have h2 := h (BitVec.ofInt 64 x)
  show 0 ≤ IntKind.wrap .u64 ((BitVec.ofInt 64 x &&& BitVec.ofInt 64 255).toNat : Int) ∧ _
  have h3 : Go.bits .and .u64 x 255 = IntKind.wrap .u64 ((BitVec.ofInt 64 x &&& BitVec.ofInt 64 255).toNat : Int) := rfl
  rw [h3, wrap_u64_id _ (by omega)]
  omega
@[go_sem] theorem wrap_and_255 (x : Int) : IntKind.wrap .i64 (Go.bits .and .u64 x 255) = Go.bits .and .u64 x 255 := by
  have := bits_and_255 x
  exact wrap_i64_id _ (by omega)

/-! ### bytes -/
/-- bytes, as cells -/
def bts (xs : List Int) : List V := xs.map fun n => .sc (.int .u8 n)
/-- a slice of bytes -/
def bS (xs : List Int) : V := .sl xs.length (bts xs)
/-- all of them are bytes -/
def bOk (xs : List Int) : Prop := ∀ i, i < xs.length → 0 ≤ gi xs i ∧ gi xs i ≤ 255
@[go_sem] theorem length_bts (xs : List Int) : (bts xs).length = xs.length := by simp [bts]
@[go_sem] theorem bts_nil : bts [] = [] := _root_.id rfl
@[go_sem] theorem byteL_nil : byteL [] = some [] := _root_.id rfl
@[go_sem] theorem byteL_bts (xs : List Int) : byteL (bts xs) = some xs := by
  induction xs with
  | nil => rfl
  | cons x r ih => show (byteL (bts r)).map (x :: ·) = _; rw [ih]; rfl
@[go_sem] theorem bts_append (xs ys : List Int) : bts xs ++ bts ys = bts (xs ++ ys) := by simp [bts]
@[go_sem] theorem bts_snoc (xs : List Int) (n : Int) : bts xs ++ [.sc (.int .u8 n)] = bts (xs ++ [n]) := by simp [bts]
@[go_sem] theorem bts_take_all (xs : List Int) (n : Nat) (h : xs.length ≤ n) : (bts xs).take n = bts xs := by rw [List.take_of_length_le (by simpa [bts] using h)]
@[go_sem low] theorem bts_take (xs : List Int) (n : Nat) : (bts xs).take n = bts (xs.take n) := by simp [bts, List.map_take]
@[go_sem] theorem bts_drop (xs : List Int) (n : Nat) : (bts xs).drop n = bts (xs.drop n) := by simp [bts, List.map_drop]
@[go_sem] theorem vAt_bts (xs : List Int) (i : Nat) (K : V → Prop) : vAt (bts xs) i K = grd (i < xs.length) (K (.sc (.int .u8 (gi xs i)))) := by
  by_cases h : i < xs.length <;> simp [vAt, bts, gi, h, grd]
@[go_sem] theorem imm_bts (xs : List Int) : V.immL (bts xs) = true := by induction xs with | nil => rfl | cons x xs ih => simpa [bts, V.immL, V.imm] using ih
@[go_sem] theorem one_bts (xs : List Int) : V.oneL (bts xs) = true := by induction xs with | nil => rfl | cons x xs ih => simpa [bts, V.oneL, V.one, Value.oneCell'] using ih
@[go_sem] theorem flat_bts (xs : List Int) : V.flatL (bts xs) = true := by induction xs with | nil => rfl | cons x xs ih => simpa [bts, V.flatL, V.flat] using ih
@[go_sem] theorem noref_bts (xs : List Int) : V.norefL (bts xs) = true := by induction xs with | nil => rfl | cons x xs ih => simpa [bts, V.norefL, V.noref] using ih
@[go_sem] theorem kill_bts (p : Nat → Bool) (xs : List Int) : V.killL p (bts xs) = bts xs := by simp [killL_eq, bts, V.kill]
@[go_sem] theorem frz_bts (f : Nat → Option Ob) (xs : List Int) : V.frzL f (bts xs) = bts xs := by simp [frzL_eq, bts, V.frz]
@[go_sem] theorem ren_bts (g : Nat → Nat) (xs : List Int) : V.renL g (bts xs) = bts xs := by simp [renL_eq, bts, V.ren]
theorem row_bS {w : World} {a : Option Addr} {len cap : Nat} {zs : List Int} (h : (a = none ∧ len = 0 ∧ cap = 0 ∧ zs = []) ∨
    ∃ x, a = some x ∧ len ≤ cap ∧ cap ≤ maxLen ∧ zs.length = cap ∧ (∀ i, i < zs.length → w.cell? (x.add i) = some (.int .u8 (zs.getD i 0))) ∧ ∀ n ∈ zs, (Lit.int .u8 n).wf = true) :
    RepD w (fun _ => False) (.slice a len cap) (bS (zs.take len)) := by
  have h1 := row_rep h
  have h2 := row_len h
  unfold bS
  rw [h2]
  exact h1
theorem row_bOk {w : World} {a : Option Addr} {len cap : Nat} {zs : List Int} (h : (a = none ∧ len = 0 ∧ cap = 0 ∧ zs = []) ∨
    ∃ x, a = some x ∧ len ≤ cap ∧ cap ≤ maxLen ∧ zs.length = cap ∧ (∀ i, i < zs.length → w.cell? (x.add i) = some (.int .u8 (zs.getD i 0))) ∧ ∀ n ∈ zs, (Lit.int .u8 n).wf = true) : bOk (zs.take len) := by
  intro i hi
  have hm : gi (zs.take len) i ∈ zs := List.mem_of_mem_take (gi_mem _ _ hi)
  rcases h with ⟨rfl, rfl, rfl, rfl⟩ | ⟨x, rfl, _, _, _, _, hw⟩
  · simp at hi
  · have := hw _ hm
    simp [Lit.wf] at this
    have e1 : IntKind.u8.min = 0 := rfl
    have e2 : IntKind.u8.max = 255 := rfl
    omega
end Go.AG

/-
  AG, part V: rows of structs, as cells: each element gives m cells. Conditions: none.
-/
set_option linter.unusedSimpArgs false
set_option linter.unusedVariables false
namespace Go.AG
open Go.RowKit

section
variable {α : Type} (f : α → List V) (m : Nat) (hf : ∀ d, (f d).length = m)
include hf
theorem rsLen (ds : List α) : (ds.flatMap f).length = ds.length * m := by
  induction ds with
  | nil => simp
  | cons d ds ih => simp only [List.flatMap_cons, List.length_append, hf, ih, List.length_cons, Nat.add_mul, Nat.one_mul]; omega
theorem rsDrop (ds : List α) (n : Nat) : (ds.flatMap f).drop (n * m) = (ds.drop n).flatMap f := by
  induction ds generalizing n with
  | nil => simp
  | cons d ds ih =>
    cases n with
    | zero => simp
    | succ n =>
      simp only [List.flatMap_cons, List.drop_succ_cons]
      rw [← ih n, List.drop_append, show (n + 1) * m - (f d).length = n * m from by rw [hf, Nat.add_mul]; omega, List.drop_eq_nil_of_le (by rw [hf, Nat.add_mul]; omega), List.nil_append]
theorem rsTake (ds : List α) (n : Nat) : (ds.flatMap f).take (n * m) = (ds.take n).flatMap f := by
  induction ds generalizing n with
  | nil => simp
  | cons d ds ih =>
    cases n with
    | zero => simp
    | succ n =>
      simp only [List.flatMap_cons, List.take_succ_cons]
      rw [← ih n, List.take_append, show (n + 1) * m - (f d).length = n * m from by rw [hf, Nat.add_mul]; omega, List.take_of_length_le (by rw [hf, Nat.add_mul]; omega)]
theorem rsGet (ds : List α) (i j : Nat) (hi : i < ds.length) (hj : j < m) : (ds.flatMap f)[i * m + j]? = (f ds[i])[j]? := by
  rw [← List.getElem?_drop, rsDrop f m hf, List.drop_eq_getElem_cons hi, List.flatMap_cons, List.getElem?_append_left (by rw [hf]; exact hj)]
theorem rsOut (ds : List α) (i j : Nat) (hi : ds.length ≤ i) : (ds.flatMap f)[i * m + j]? = none := by
  rw [List.getElem?_eq_none]
  rw [rsLen f m hf]
  have := Nat.mul_le_mul_right m hi
  omega
theorem rsAt [Inhabited α] (ds : List α) (i j : Nat) (hj : j < m) (c : α → V) (hc : ∀ d, (f d)[j]? = some (c d)) (K : V → Prop) : vAt (ds.flatMap f) (i * m + j) K = grd (i < ds.length) (K (c (ds.getD i default))) := by
  unfold vAt
  by_cases h : i < ds.length
  · rw [rsGet f m hf ds i j h hj, hc]
    simp [grd, h, List.getD]
  · rw [rsOut f m hf ds i j (by omega)]
    simp [grd, h]
theorem rsPart [Inhabited α] (hm : 0 < m) (ds : List α) (i : Nat) (K : V → Prop) : vPart true m (ds.flatMap f) (i * m) K = grd (i < ds.length) (K (.agg (f (ds.getD i default)))) := by
  unfold vPart
  by_cases h : i < ds.length
  · have h1 : i * m + m ≤ (ds.flatMap f).length := by
      rw [rsLen f m hf]
      have := Nat.mul_le_mul_right m (show i + 1 ≤ ds.length from h)
      rw [Nat.add_mul] at this; omega
    rw [rsDrop f m hf, List.drop_eq_getElem_cons h, List.flatMap_cons, List.take_append_of_le_length (by rw [hf]; exact Nat.le_refl _), List.take_of_length_le (by rw [hf]; exact Nat.le_refl _)]
    show grd _ _ = _
    rw [grd_of h1, grd_of h]
    simp [List.getD, h]
  · have h1 : ¬ i * m + m ≤ (ds.flatMap f).length := by
      rw [rsLen f m hf]
      have := Nat.mul_le_mul_right m (show ds.length ≤ i from by omega)
      omega
    show (_ ∧ _) = (_ ∧ _)
    simp only [h1, h, false_and]
theorem rsWrAll (ds : List α) (i : Nat) (h : i < ds.length) (d : α) : wr (ds.flatMap f) (i * m) (f d) = (ds.set i d).flatMap f := by
  unfold wr
  rw [rsTake f m hf, hf, show i * m + m = (i + 1) * m from by rw [Nat.add_mul]; omega, rsDrop f m hf, List.set_eq_take_append_cons_drop, if_pos h]
  simp
theorem rsWr [Inhabited α] (ds : List α) (i j : Nat) (hj : j < m) (h : i < ds.length) (v : V) (d : α) (hd : f d = (f (ds.getD i default)).set j v) : wr (ds.flatMap f) (i * m + j) [v] = (ds.set i d).flatMap f := by
  rw [← rsWrAll f m hf ds i h d, hd]
  have hl := rsLen f m hf ds
  have h1 : i * m + m ≤ (ds.flatMap f).length := by
    have := Nat.mul_le_mul_right m (show i + 1 ≤ ds.length from h)
    rw [Nat.add_mul] at this; omega
  have hg : ds.getD i default = ds[i] := by simp [List.getD, h]
  have hfl := hf (ds[i])
  have hsl : (((f (ds.getD i default)).set j v).length) = m := by rw [List.length_set, hf]
  apply List.ext_getElem?
  intro k
  rw [get_wr _ _ _ (by rw [List.length_singleton]; omega), get_wr _ _ _ (by rw [hsl]; omega), hsl]
  simp only [List.length_cons, List.length_nil]
  by_cases k1 : k < i * m
  · rw [if_pos (by omega), if_pos k1]
  · rw [if_neg k1]
    by_cases k2 : k < i * m + m
    · rw [if_pos k2, List.getElem?_set, hf]
      have hgk : (ds.flatMap f)[k]? = (f ds[i])[k - i * m]? := by
        have := rsGet f m hf ds i (k - i * m) h (by omega)
        rwa [show i * m + (k - i * m) = k from by omega] at this
      by_cases k3 : k < i * m + j
      · rw [if_pos k3, if_neg (by omega), hg, hgk]
      · rw [if_neg k3]
        by_cases k4 : k < i * m + j + 1
        · rw [if_pos (by omega), if_pos (by omega), if_pos (by omega), show k - (i * m + j) = 0 by omega]; rfl
        · rw [if_neg (by omega), if_neg (by omega), hg, hgk]
    · rw [if_neg k2, if_neg (by omega), if_neg (by omega)]
theorem rsInj (hm : 0 < m) (hi : ∀ a b, f a = f b → a = b) : ∀ xs ys : List α, xs.flatMap f = ys.flatMap f → xs = ys
  | [], [], _ => rfl
  | [], y :: ys, h => by
    have := congrArg List.length h
    rw [rsLen f m hf, rsLen f m hf] at this
    simp [Nat.add_mul] at this; omega
  | x :: xs, [], h => by
    have := congrArg List.length h
    rw [rsLen f m hf, rsLen f m hf] at this
    simp [Nat.add_mul] at this; omega
  | x :: xs, y :: ys, h => by
    simp only [List.flatMap_cons] at h
    obtain ⟨h1, h2⟩ := List.append_inj h (by rw [hf, hf])
    rw [hi _ _ h1, rsInj hm hi xs ys h2]
end
theorem rsReps {α : Type} (f : α → List V) (n : Nat) (d : α) : reps n (f d) = (List.replicate n d).flatMap f := by
  induction n with
  | zero => rfl
  | succ n ih => simp only [reps, List.replicate_succ, List.flatMap_cons, ih]
attribute [go_sem] List.set_set
theorem fillG {α : Type} [Inhabited α] (xs : List α) (k : Nat) (z : α) (h : k < xs.length) : (xs.take k ++ List.replicate (xs.length - k) z).set k (xs.getD k default) = xs.take (k + 1) ++ List.replicate (xs.length - (k + 1)) z := by
  have e : xs.length - k = (xs.length - (k + 1)) + 1 := by omega
  have e2 : xs.getD k default = xs[k] := by simp [List.getD, h]
  rw [e, List.replicate_succ, List.take_succ_eq_append_getElem h, List.set_append_right _ _ (by simp; omega), e2, show k - (xs.take k).length = 0 by simp; omega, List.set_cons_zero, List.append_assoc]
  rfl
/-- one more element of a row is written, from the left -/
theorem growG {α : Type} (ys xs : List α) (k : Nat) (d : α) (h : ys.length = k) (hk : k < xs.length) : (ys ++ xs.drop k).set k d = (ys ++ [d]) ++ xs.drop (k + 1) := by
  subst h
  rw [List.set_append, if_neg (by omega), Nat.sub_self, List.drop_eq_getElem_cons hk, List.set_cons_zero, List.append_assoc]
  rfl
end Go.AG

/-
  AG, part X: the rules by which simp runs a region in the order of its schedule. Conditions: none.
-/
set_option linter.unusedSimpArgs false
set_option linter.unusedVariables false
namespace Go.AG
open Go.RowKit

section
variable {P : Program}
@[go_sem] theorem nthO_zero (o : Oper) (os : List Oper) : nthO (o :: os) 0 = o := _root_.id rfl
@[go_sem] theorem nthO_succ (o : Oper) (os : List Oper) (n : Nat) : nthO (o :: os) (n + 1) = nthO os n := _root_.id rfl
@[go_sem] theorem vSch_nil (all : List Oper) (K : AState → Prop) (R : List Nat) (s : AState) : vSch P all K [] R s = K s := _root_.id rfl
@[go_sem] theorem vSch_plain (all : List Oper) (os : List (Oper × Bool)) (d : Option Nat) (op : Op) (t : TypeId) (p : String) (af : Array Edge) (K : AState → Prop) (R : List Nat) (s : AState) :
    vSch P all K ((⟨d, op, t, p, af, none⟩, false) :: os) R s = vsOp P ⟨d, op, t, p, af, none⟩ R (vSch P all K os) s := _root_.id rfl
@[go_sem] theorem vSch_alone (all : List Oper) (os : List (Oper × Bool)) (d : Option Nat) (t : TypeId) (x : Operand) (ty : TypeId) (p : String) (af : Array Edge) (K : AState → Prop) (R : List Nat) (s : AState) :
    vSch P all K ((⟨d, .load t x, ty, p, af, none⟩, true) :: os) R s = vLoad (ti P t) (s.ev x) s.ob (fin d (vSch P all K os R) s) := _root_.id rfl
/-- an operation under a guard, in a schedule -/
def vsGuard (P : Program) (v : V) (want : Bool) (o : Oper) (all : List Oper) (os : List (Oper × Bool)) (K : AState → Prop) (R : List Nat) (s : AState) : Prop :=
  ∃ b, v = gval b ∧ (b = some want → vsOp P o R (vSch P all K os) s) ∧ (b ≠ some want → fin o.dst (vSch P all K os R) s (.sc undef))
@[go_sem] theorem vSch_guard (all : List Oper) (os : List (Oper × Bool)) (d : Option Nat) (op : Op) (t : TypeId) (p : String) (af : Array Edge) (j : Nat) (want : Bool) (K : AState → Prop) (R : List Nat) (s : AState) :
    vSch P all K ((⟨d, op, t, p, af, some (j, want)⟩, false) :: os) R s = vsGuard P (gv all s j) want ⟨d, op, t, p, af, some (j, want)⟩ all os K R s := _root_.id rfl
@[congr] theorem vSch_congr {all : List Oper} {os : List (Oper × Bool)} {K : AState → Prop} {R R' : List Nat} {s s' : AState} (hr : R = R') (h : s = s') : vSch P all K os R s = vSch P all K os R' s' := by rw [h, hr]
@[congr] theorem vsOp_congr {o : Oper} {K : List Nat → AState → Prop} {R R' : List Nat} {s s' : AState} (hr : R = R') (h : s = s') : vsOp P o R K s = vsOp P o R' K s' := by rw [h, hr]
@[congr] theorem vsGuard_congr {v v' : V} {want : Bool} {o : Oper} {all : List Oper} {os : List (Oper × Bool)} {K : AState → Prop} {R R' : List Nat} {s s' : AState} (hv : v = v') (hr : R = R') (h : s = s') : vsGuard P v want o all os K R s = vsGuard P v' want o all os K R' s' := by rw [h, hr, hv]
section
variable {o : Oper} {all : List Oper} {os : List (Oper × Bool)} {K : AState → Prop} {R : List Nat} {s : AState}
@[go_sem] theorem vsGuard_tt : vsGuard P (.sc (.bool true)) true o all os K R s = vsOp P o R (vSch P all K os) s := by
  apply propext
  constructor
  · rintro ⟨r, hb, h1, _⟩; exact h1 (gval_b hb)
  · intro h; exact ⟨some true, rfl, fun _ => h, fun h => absurd rfl h⟩
@[go_sem] theorem vsGuard_tf : vsGuard P (.sc (.bool true)) false o all os K R s = fin o.dst (vSch P all K os R) s (.sc undef) := by
  apply propext
  constructor
  · rintro ⟨r, hb, _, h1⟩; exact h1 (by rw [gval_b hb]; simp)
  · intro h; exact ⟨some true, rfl, (fun h => by cases h), fun _ => h⟩
@[go_sem] theorem vsGuard_ft : vsGuard P (.sc (.bool false)) true o all os K R s = fin o.dst (vSch P all K os R) s (.sc undef) := by
  apply propext
  constructor
  · rintro ⟨r, hb, _, h1⟩; exact h1 (by rw [gval_b hb]; simp)
  · intro h; exact ⟨some false, rfl, (fun h => by cases h), fun _ => h⟩
@[go_sem] theorem vsGuard_ff : vsGuard P (.sc (.bool false)) false o all os K R s = vsOp P o R (vSch P all K os) s := by
  apply propext
  constructor
  · rintro ⟨r, hb, h1, _⟩; exact h1 (gval_b hb)
  · intro h; exact ⟨some false, rfl, fun _ => h, fun h => absurd rfl h⟩
@[go_sem] theorem vsGuard_un (want : Bool) : vsGuard P (.sc undef) want o all os K R s = fin o.dst (vSch P all K os R) s (.sc undef) := by
  apply propext
  constructor
  · rintro ⟨r, hb, _, h1⟩; exact h1 (by rw [gval_u hb]; simp)
  · intro h; exact ⟨none, rfl, (fun h => by cases h), fun _ => h⟩
theorem vsGuard_any {b want : Bool} (h1 : b = want → vsOp P o R (vSch P all K os) s) (h2 : b ≠ want → fin o.dst (vSch P all K os R) s (.sc undef)) : vsGuard P (.sc (.bool b)) want o all os K R s := ⟨some b, rfl, fun h => h1 (by simpa using h), fun h => h2 (by simpa using h)⟩
end

section
variable {P : Program} {o : Oper} {all : List Oper} {K : AState → Prop} {KK : List Nat → AState → Prop} {R : List Nat} {s : AState}
@[go_sem] theorem vTr_done : vTr P all K .done R s = K s := _root_.id rfl
@[go_sem] theorem vTr_stop : vTr P all K .stop R s = True := _root_.id rfl
@[go_sem] theorem vTr_rd (t : Tr Oper) : vTr P all K (.rd o t) R s = vOG P all o (vTr P all K t) R s := _root_.id rfl
@[go_sem] theorem vTr_alt (t r : Tr Oper) : vTr P all K (.alt o t r) R s = (vOG P all o (vTr P all K t) R s ∧ vTr P all K r R s) := _root_.id rfl
@[go_sem] theorem Tr_map_done {α β : Type} (f : α → β) : Tr.map f .done = .done := _root_.id rfl
@[go_sem] theorem Tr_map_stop {α β : Type} (f : α → β) : Tr.map f .stop = .stop := _root_.id rfl
@[go_sem] theorem Tr_map_rd {α β : Type} (f : α → β) (x : α) (t : Tr α) : Tr.map f (.rd x t) = .rd (f x) (t.map f) := _root_.id rfl
@[go_sem] theorem Tr_map_alt {α β : Type} (f : α → β) (x : α) (t r : Tr α) : Tr.map f (.alt x t r) = .alt (f x) (t.map f) (r.map f) := _root_.id rfl
/-- an operation under a guard, in a tree -/
def vtGuard (P : Program) (v : V) (want : Bool) (o : Oper) (KK : List Nat → AState → Prop) (R : List Nat) (s : AState) : Prop :=
  ∃ b, v = gval b ∧ (b = some want → vsOp P o R KK s) ∧ (b ≠ some want → fin o.dst (KK R) s (.sc undef))
@[go_sem] theorem vOG_plain (d : Option Nat) (op : Op) (t : TypeId) (p : String) (af : Array Edge) : vOG P all ⟨d, op, t, p, af, none⟩ KK R s = vsOp P ⟨d, op, t, p, af, none⟩ R KK s := _root_.id rfl
@[go_sem] theorem vOG_guard (d : Option Nat) (op : Op) (t : TypeId) (p : String) (af : Array Edge) (j : Nat) (want : Bool) :
    vOG P all ⟨d, op, t, p, af, some (j, want)⟩ KK R s = vtGuard P (gv all s j) want ⟨d, op, t, p, af, some (j, want)⟩ KK R s := _root_.id rfl
@[congr] theorem vTr_congr {t : Tr Oper} {R R' : List Nat} {s s' : AState} (hr : R = R') (h : s = s') : vTr P all K t R s = vTr P all K t R' s' := by rw [h, hr]
@[congr] theorem vOG_congr {R R' : List Nat} {s s' : AState} (hr : R = R') (h : s = s') : vOG P all o KK R s = vOG P all o KK R' s' := by rw [h, hr]
@[congr] theorem vtGuard_congr {v v' : V} {want : Bool} {R R' : List Nat} {s s' : AState} (hv : v = v') (hr : R = R') (h : s = s') : vtGuard P v want o KK R s = vtGuard P v' want o KK R' s' := by rw [h, hr, hv]
@[go_sem] theorem vtGuard_tt : vtGuard P (.sc (.bool true)) true o KK R s = vsOp P o R KK s := by
  apply propext
  constructor
  · rintro ⟨r, hb, h1, _⟩; exact h1 (gval_b hb)
  · intro h; exact ⟨some true, rfl, fun _ => h, fun h => absurd rfl h⟩
@[go_sem] theorem vtGuard_tf : vtGuard P (.sc (.bool true)) false o KK R s = fin o.dst (KK R) s (.sc undef) := by
  apply propext
  constructor
  · rintro ⟨r, hb, _, h1⟩; exact h1 (by rw [gval_b hb]; simp)
  · intro h; exact ⟨some true, rfl, (fun h => by cases h), fun _ => h⟩
@[go_sem] theorem vtGuard_ft : vtGuard P (.sc (.bool false)) true o KK R s = fin o.dst (KK R) s (.sc undef) := by
  apply propext
  constructor
  · rintro ⟨r, hb, _, h1⟩; exact h1 (by rw [gval_b hb]; simp)
  · intro h; exact ⟨some false, rfl, (fun h => by cases h), fun _ => h⟩
@[go_sem] theorem vtGuard_ff : vtGuard P (.sc (.bool false)) false o KK R s = vsOp P o R KK s := by
  apply propext
  constructor
  · rintro ⟨r, hb, h1, _⟩; exact h1 (gval_b hb)
  · intro h; exact ⟨some false, rfl, fun _ => h, fun h => absurd rfl h⟩
@[go_sem] theorem vtGuard_un (want : Bool) : vtGuard P (.sc undef) want o KK R s = fin o.dst (KK R) s (.sc undef) := by
  apply propext
  constructor
  · rintro ⟨r, hb, _, h1⟩; exact h1 (by rw [gval_u hb]; simp)
  · intro h; exact ⟨none, rfl, (fun h => by cases h), fun _ => h⟩
theorem vtGuard_any {b want : Bool} (h1 : b = want → vsOp P o R KK s) (h2 : b ≠ want → fin o.dst (KK R) s (.sc undef)) : vtGuard P (.sc (.bool b)) want o KK R s := ⟨some b, rfl, fun h => h1 (by simpa using h), fun h => h2 (by simpa using h)⟩
/-- the end of a branch of a tree: the common state, objects newly numbered -/
theorem tr_new {β : Type} {p : β → Prop} {J : β → AState} {s : AState} (x : β) (hp : p x) (h : leP s (J x)) : ∃ x, p x ∧ leF s (J x) := ⟨x, hp, s, .refl s, .inr h⟩
theorem tr_same {β : Type} {p : β → Prop} {J : β → AState} {s : AState} (x : β) (hp : p x) (h : leS s (J x)) : ∃ x, p x ∧ leF s (J x) := ⟨x, hp, s, .refl s, .inl h⟩
theorem tr_new_frz {β : Type} {p : β → Prop} {J : β → AState} {s s1 : AState} (x : β) (hp : p x) (hf : Frz s s1) (h : leP s1 (J x)) : ∃ x, p x ∧ leF s (J x) := ⟨x, hp, s1, hf, .inr h⟩
end

/-- what a load reads of the owned -/
def rdL : V → List Nat
  | .ptr l _ => [l]
  | _ => []
@[go_sem] theorem rdL_ptr (l off : Nat) : rdL (.ptr l off) = [l] := _root_.id rfl
@[go_sem] theorem rdL_ip (xs : List V) (off : Nat) : rdL (.ip xs off) = [] := _root_.id rfl
def refL : V → List Nat
  | .ref l _ _ => [l]
  | _ => []
@[go_sem] theorem refL_ref (l off n : Nat) : refL (.ref l off n) = [l] := _root_.id rfl
@[go_sem] theorem refL_sc (v : Value) : refL (.sc v) = [] := _root_.id rfl
@[go_sem] theorem refL_sl (n : Nat) (xs : List V) : refL (.sl n xs) = [] := _root_.id rfl
def mpL : V → List Nat
  | .mp l => [l]
  | _ => []
@[go_sem] theorem mpL_mp (l : Nat) : mpL (.mp l) = [l] := _root_.id rfl
@[go_sem] theorem mpL_ref (l off n : Nat) : mpL (.ref l off n) = [] := _root_.id rfl
@[go_sem] theorem mpL_sc (v : Value) : mpL (.sc v) = [] := _root_.id rfl
@[go_sem] theorem mpL_sl (n : Nat) (xs : List V) : mpL (.sl n xs) = [] := _root_.id rfl
def disj (xs ys : List Nat) : Prop := ∀ l ∈ xs, l ∉ ys
def notIn (x : Nat) (ys : List Nat) : Prop := x ∉ ys
@[go_sem] theorem disj_nil (ys : List Nat) : disj [] ys = True := by simp [disj]
@[go_sem] theorem disj_cons (x : Nat) (xs ys : List Nat) : disj (x :: xs) ys = (notIn x ys ∧ disj xs ys) := by simp [disj, notIn]
@[go_sem] theorem notIn_nil (x : Nat) : notIn x [] = True := by simp [notIn]
@[go_sem] theorem notIn_cons (x y : Nat) (ys : List Nat) : notIn x (y :: ys) = (x ≠ y ∧ notIn x ys) := by simp [notIn]

section
variable (d : Option Nat) (ty : TypeId) (p : String) (af : Array Edge) (g : Option (Nat × Bool)) (R : List Nat) (K : List Nat → AState → Prop) (s : AState)
@[go_sem] theorem vsOp_move (x : Operand) : vsOp P ⟨d, .move x, ty, p, af, g⟩ R K s = vcOp P ⟨d, .move x, ty, p, af, g⟩ (K R) s := _root_.id rfl
@[go_sem] theorem vsOp_assign (x : Operand) : vsOp P ⟨d, .assign x, ty, p, af, g⟩ R K s = vcOp P ⟨d, .assign x, ty, p, af, g⟩ (K R) s := _root_.id rfl
@[go_sem] theorem vsOp_pick (c x y : Operand) : vsOp P ⟨d, .pick c x y, ty, p, af, g⟩ R K s = vcOp P ⟨d, .pick c x y, ty, p, af, g⟩ (K R) s := _root_.id rfl
@[go_sem] theorem vsOp_nilCheck (x : Operand) : vsOp P ⟨d, .nilCheck x, ty, p, af, g⟩ R K s = vcOp P ⟨d, .nilCheck x, ty, p, af, g⟩ (K R) s := _root_.id rfl
@[go_sem] theorem vsOp_binOp (op : BinOp) (t u : TypeId) (x y : Operand) : vsOp P ⟨d, .binOp op t x y u, ty, p, af, g⟩ R K s = vcOp P ⟨d, .binOp op t x y u, ty, p, af, g⟩ (K R) s := _root_.id rfl
@[go_sem] theorem vsOp_unOp (op : UnOp) (t : TypeId) (x : Operand) : vsOp P ⟨d, .unOp op t x, ty, p, af, g⟩ R K s = vcOp P ⟨d, .unOp op t x, ty, p, af, g⟩ (K R) s := _root_.id rfl
@[go_sem] theorem vsOp_convert (t u : TypeId) (x : Operand) : vsOp P ⟨d, .convert t u x, ty, p, af, g⟩ R K s = vcOp P ⟨d, .convert t u x, ty, p, af, g⟩ (K (refL (s.ev x) ++ R)) s := by
  have : (rdOf s (.convert t u x)).toList = refL (s.ev x) := by simp only [rdOf]; cases s.ev x <;> rfl
  simp only [vsOp, rdB, cond_true, this, vcOp, isMem, qop]
@[go_sem] theorem vsOp_fieldAddr (t : TypeId) (x : Operand) (f : Nat) : vsOp P ⟨d, .fieldAddr t x f, ty, p, af, g⟩ R K s = vcOp P ⟨d, .fieldAddr t x f, ty, p, af, g⟩ (K R) s := _root_.id rfl
@[go_sem] theorem vsOp_field (t : TypeId) (x : Operand) (f : Nat) : vsOp P ⟨d, .field t x f, ty, p, af, g⟩ R K s = vcOp P ⟨d, .field t x f, ty, p, af, g⟩ (K R) s := _root_.id rfl
@[go_sem] theorem vsOp_indexAddr (t : TypeId) (x i : Operand) : vsOp P ⟨d, .indexAddr t x i, ty, p, af, g⟩ R K s = vcOp P ⟨d, .indexAddr t x i, ty, p, af, g⟩ (K R) s := _root_.id rfl
@[go_sem] theorem vsOp_index (t : TypeId) (x i : Operand) : vsOp P ⟨d, .index t x i, ty, p, af, g⟩ R K s = vcOp P ⟨d, .index t x i, ty, p, af, g⟩ (K R) s := _root_.id rfl
@[go_sem] theorem vsOp_slice (t : TypeId) (x : Operand) (lo hi : Option Operand) : vsOp P ⟨d, .slice t x lo hi none, ty, p, af, g⟩ R K s = vcOp P ⟨d, .slice t x lo hi none, ty, p, af, g⟩ (K R) s := _root_.id rfl
@[go_sem] theorem vsOp_extract (x : Operand) (i : Nat) : vsOp P ⟨d, .extract x i, ty, p, af, g⟩ R K s = vcOp P ⟨d, .extract x i, ty, p, af, g⟩ (K R) s := _root_.id rfl
@[go_sem] theorem vsOp_len (x : Operand) (t : TypeId) : vsOp P ⟨d, .call ⟨.builtin .len, #[x], #[t]⟩, ty, p, af, g⟩ R K s = vcOp P ⟨d, .call ⟨.builtin .len, #[x], #[t]⟩, ty, p, af, g⟩ (K (mpL (s.ev x) ++ R)) s := by
  have : (rdOf s (.call ⟨.builtin .len, #[x], #[t]⟩)).toList = mpL (s.ev x) := by simp only [rdOf]; generalize s.ev x = v; cases v <;> rfl
  show qop P s (.call ⟨.builtin .len, #[x], #[t]⟩) (fin d (K ((rdOf s (.call ⟨.builtin .len, #[x], #[t]⟩)).toList ++ R)) s) = _
  rw [this]; rfl
@[go_sem] theorem vsOp_lookup (t : TypeId) (x i : Operand) (c : Bool) : vsOp P ⟨d, .lookup t x i c, ty, p, af, g⟩ R K s = vcOp P ⟨d, .lookup t x i c, ty, p, af, g⟩ (K (mpL (s.ev x) ++ R)) s := by
  have : (rdOf s (.lookup t x i c)).toList = mpL (s.ev x) := by simp only [rdOf]; generalize s.ev x = v; cases v <;> rfl
  show qop P s (.lookup t x i c) (fin d (K ((rdOf s (.lookup t x i c)).toList ++ R)) s) = _
  rw [this]; rfl
@[go_sem] theorem vsOp_makeInterface (t : TypeId) (x : Operand) : vsOp P ⟨d, .makeInterface t x, ty, p, af, g⟩ R K s = vcOp P ⟨d, .makeInterface t x, ty, p, af, g⟩ (K R) s := _root_.id rfl
@[go_sem] theorem vsOp_makeMap (t : TypeId) (r : Option Operand) : vsOp P ⟨d, .makeMap t r, ty, p, af, g⟩ R K s = vcOp P ⟨d, .makeMap t r, ty, p, af, g⟩ (K R) s := by simp [vsOp, rdB, vgOp, isMem, wset, vcOp]
@[go_sem] theorem vsOp_mapUpdate (t : TypeId) (m k v : Operand) : vsOp P ⟨none, .mapUpdate t m k v, ty, p, af, g⟩ R K s = grd (disj (mpL (s.ev m)) R) (vcOp P ⟨none, .mapUpdate t m k v, ty, p, af, g⟩ (K R) s) := by
  have : wset s (.mapUpdate t m k v) = mpL (s.ev m) := by simp only [wset]; generalize s.ev m = v; cases v <;> rfl
  simp only [vsOp, rdB, vgOp, cond_false, this, isMem, true_and, vcOp, grd, disj]
@[go_sem] theorem vsOp_insert (t : TypeId) (m k v : Operand) : vsOp P ⟨none, .insert t m k v, ty, p, af, g⟩ R K s = grd (disj (mpL (s.ev m)) R) (vcOp P ⟨none, .insert t m k v, ty, p, af, g⟩ (K R) s) := by
  have : wset s (.insert t m k v) = mpL (s.ev m) := by simp only [wset]; generalize s.ev m = v; cases v <;> rfl
  simp only [vsOp, rdB, vgOp, cond_false, this, isMem, true_and, vcOp, grd, disj]
@[go_sem] theorem vsOp_min (x y : Operand) (ts : Array TypeId) : vsOp P ⟨d, .call ⟨.builtin .min, #[x, y], ts⟩, ty, p, af, g⟩ R K s = vcOp P ⟨d, .call ⟨.builtin .min, #[x, y], ts⟩, ty, p, af, g⟩ (K R) s := _root_.id rfl
@[go_sem] theorem vsOp_max (x y : Operand) (ts : Array TypeId) : vsOp P ⟨d, .call ⟨.builtin .max, #[x, y], ts⟩, ty, p, af, g⟩ R K s = vcOp P ⟨d, .call ⟨.builtin .max, #[x, y], ts⟩, ty, p, af, g⟩ (K R) s := _root_.id rfl
@[go_sem] theorem vsOp_makeFunc (f : FuncId) (caps : Array Operand) : vsOp P ⟨d, .makeFunc (.func f) #[] caps, ty, p, af, g⟩ R K s = vcOp P ⟨d, .makeFunc (.func f) #[] caps, ty, p, af, g⟩ (K R) s := by simp [vsOp, rdB, qop, grd, rdOf, vcOp, isMem]
@[go_sem] theorem vsOp_load (t : TypeId) (x : Operand) : vsOp P ⟨d, .load t x, ty, p, af, g⟩ R K s = vLoad (ti P t) (s.ev x) s.ob (fin d (K (rdL (s.ev x) ++ R)) s) := by
  show qop P s (.load t x) (fin d (K ((rdOf s (.load t x)).toList ++ R)) s) = _
  have : (rdOf s (.load t x)).toList = rdL (s.ev x) := by
    simp only [rdOf]; generalize s.ev x = v; cases v <;> rfl
  rw [this]; rfl
@[go_sem] theorem vsOp_alloc (t : TypeId) : vsOp P ⟨d, .alloc t, ty, p, af, g⟩ R K s = vcOp P ⟨d, .alloc t, ty, p, af, g⟩ (K R) s := by simp [vsOp, rdB, vgOp, isMem, wset, vcOp]
@[go_sem] theorem vsOp_box (t : TypeId) (x : Operand) : vsOp P ⟨d, .box t x, ty, p, af, g⟩ R K s = vcOp P ⟨d, .box t x, ty, p, af, g⟩ (K R) s := by simp [vsOp, rdB, vgOp, isMem, wset, vcOp]
@[go_sem] theorem vsOp_buildSlice (t : TypeId) (len : Nat) (parts : Array (Nat × Operand)) : vsOp P ⟨d, .buildSlice t len parts, ty, p, af, g⟩ R K s = vcOp P ⟨d, .buildSlice t len parts, ty, p, af, g⟩ (K R) s := by simp [vsOp, rdB, vgOp, isMem, wset, vcOp]
@[go_sem] theorem vsOp_makeSlice (t : TypeId) (l c : Operand) : vsOp P ⟨d, .makeSlice t l c, ty, p, af, g⟩ R K s = vcOp P ⟨d, .makeSlice t l c, ty, p, af, g⟩ (K R) s := by simp [vsOp, rdB, vgOp, isMem, wset, vcOp]
@[go_sem] theorem vsOp_build (t : TypeId) (parts : Array (Nat × Operand)) : vsOp P ⟨d, .build t parts, ty, p, af, g⟩ R K s = vcOp P ⟨d, .build t parts, ty, p, af, g⟩ (K R) s := by simp [vsOp, rdB, vgOp, isMem, wset, vcOp]
@[go_sem] theorem vsOp_store (t : TypeId) (q x : Operand) : vsOp P ⟨none, .store t q x, ty, p, af, g⟩ R K s = grd (disj (rdL (s.ev q)) R) (vcOp P ⟨none, .store t q x, ty, p, af, g⟩ (K R) s) := by
  have : wset s (.store t q x) = rdL (s.ev q) := by simp only [wset]; generalize s.ev q = v; cases v <;> rfl
  simp only [vsOp, rdB, vgOp, cond_false, this, isMem, true_and, vcOp, grd, disj]
@[go_sem] theorem vsOp_append (t u : TypeId) (x y : Operand) : vsOp P ⟨d, .call ⟨.builtin .append, #[x, y], #[t, u]⟩, ty, p, af, g⟩ R K s = grd (disj (refL (s.ev x)) R) (vcOp P ⟨d, .call ⟨.builtin .append, #[x, y], #[t, u]⟩, ty, p, af, g⟩ (K R) s) := by
  have : wset s (.call ⟨.builtin .append, #[x, y], #[t, u]⟩) = refL (s.ev x) := by simp only [wset]; generalize s.ev x = v; cases v <;> rfl
  simp only [vsOp, rdB, vgOp, cond_false, this, isMem, true_and, vcOp, grd, disj]
/-- a call in a schedule -/
def vsCallX (P : Program) (s : AState) (fo : Operand) (args : List Operand) (d : Option Nat) (R : List Nat) (K : AState → Prop) : Prop :=
  ∃ s1, Frz s s1 ∧ (vCall P s1 (s1.ev fo) (args.map s1.ev) d K ∨ ∃ ls, (∀ l ∈ ls, l ∉ R) ∧ vCallIO P s1 ls (s1.ev fo) (args.map s1.ev) d K)
@[go_sem] theorem vsOp_call (f : Operand) (args : Array Operand) (ts : Array TypeId) : vsOp P ⟨d, .call ⟨.value f, args, ts⟩, ty, p, af, g⟩ R K s = vsCallX P s f args.toList d R (K R) := _root_.id rfl
end
@[congr] theorem vsCallX_congr {s s' : AState} {fo : Operand} {args : List Operand} {d : Option Nat} {R R' : List Nat} {K : AState → Prop} (h : s = s') (hr : R = R') : vsCallX P s fo args d R K = vsCallX P s' fo args d R' K := by rw [h, hr]
theorem vsCallX_of {s : AState} {fo : Operand} {args : List Operand} {d : Option Nat} {R : List Nat} {K : AState → Prop} (h : vCall P s (s.ev fo) (args.map s.ev) d K) : vsCallX P s fo args d R K := ⟨s, .refl s, .inl h⟩
theorem vsCallX_frz {s s1 : AState} {fo : Operand} {args : List Operand} {d : Option Nat} {R : List Nat} {K : AState → Prop} (hf : Frz s s1) (h : vCall P s1 (s1.ev fo) (args.map s1.ev) d K) : vsCallX P s fo args d R K := ⟨s1, hf, .inl h⟩
theorem vsCallX_io {s : AState} {fo : Operand} {args : List Operand} {d : Option Nat} {R : List Nat} {K : AState → Prop} (ls : List Nat) (hd : disj ls R) (h : vCallIO P s ls (s.ev fo) (args.map s.ev) d K) : vsCallX P s fo args d R K := ⟨s, .refl s, .inr ⟨ls, hd, h⟩⟩
end
end Go.AG

/-
  AG, part Y: rows of Booleans, as cells. Conditions: none.
-/
set_option linter.unusedSimpArgs false
set_option linter.unusedVariables false
namespace Go.AG
open Go.RowKit

def bls (xs : List Bool) : List V := xs.map fun b => .sc (.bool b)
def gb (xs : List Bool) (i : Nat) : Bool := xs.getD i false
@[go_sem] theorem length_bls (xs : List Bool) : (bls xs).length = xs.length := by simp [bls]
@[go_sem] theorem bls_nil : bls [] = [] := _root_.id rfl
@[go_sem] theorem bls_append (xs ys : List Bool) : bls xs ++ bls ys = bls (xs ++ ys) := by simp [bls]
@[go_sem] theorem bls_snoc (xs : List Bool) (b : Bool) : bls xs ++ [.sc (.bool b)] = bls (xs ++ [b]) := by simp [bls]
@[go_sem] theorem bls_take_all (xs : List Bool) (n : Nat) (h : xs.length ≤ n) : (bls xs).take n = bls xs := by rw [List.take_of_length_le (by simpa [bls] using h)]
@[go_sem low] theorem bls_take (xs : List Bool) (n : Nat) : (bls xs).take n = bls (xs.take n) := by simp [bls, List.map_take]
@[go_sem] theorem bls_drop (xs : List Bool) (n : Nat) : (bls xs).drop n = bls (xs.drop n) := by simp [bls, List.map_drop]
@[go_sem] theorem bls_replicate (n : Nat) (z : Bool) : List.replicate n (V.sc (.bool z)) = bls (List.replicate n z) := by simp [bls]
@[go_sem] theorem reps_bls (n : Nat) (z : Bool) : reps n [.sc (.bool z)] = bls (List.replicate n z) := by rw [reps_one, bls_replicate]
@[go_sem] theorem wr_bls (xs : List Bool) (i : Nat) (b : Bool) (h : i < xs.length) : wr (bls xs) i [.sc (.bool b)] = bls (xs.set i b) := by
  rw [wr_set _ _ _ (by simpa [bls] using h)]; simp [bls, List.map_set]
@[go_sem] theorem vAt_bls (xs : List Bool) (i : Nat) (K : V → Prop) : vAt (bls xs) i K = grd (i < xs.length) (K (.sc (.bool (gb xs i)))) := by
  by_cases h : i < xs.length <;> simp [vAt, bls, gb, h, grd]
@[go_sem] theorem imm_bls (xs : List Bool) : V.immL (bls xs) = true := by induction xs with | nil => rfl | cons x xs ih => simpa [bls, V.immL, V.imm] using ih
@[go_sem] theorem one_bls (xs : List Bool) : V.oneL (bls xs) = true := by induction xs with | nil => rfl | cons x xs ih => simpa [bls, V.oneL, V.one, Value.oneCell'] using ih
@[go_sem] theorem flat_bls (xs : List Bool) : V.flatL (bls xs) = true := by induction xs with | nil => rfl | cons x xs ih => simpa [bls, V.flatL, V.flat] using ih
@[go_sem] theorem noref_bls (xs : List Bool) : V.norefL (bls xs) = true := by induction xs with | nil => rfl | cons x xs ih => simpa [bls, V.norefL, V.noref] using ih
@[go_sem] theorem kill_bls (p : Nat → Bool) (xs : List Bool) : V.killL p (bls xs) = bls xs := by simp [killL_eq, bls, V.kill]
@[go_sem] theorem frz_bls (f : Nat → Option Ob) (xs : List Bool) : V.frzL f (bls xs) = bls xs := by simp [frzL_eq, bls, V.frz]
@[go_sem] theorem ren_bls (g : Nat → Nat) (xs : List Bool) : V.renL g (bls xs) = bls xs := by simp [renL_eq, bls, V.ren]
theorem bls_inj {xs ys : List Bool} (h : bls xs = bls ys) : xs = ys := by
  induction xs generalizing ys with
  | nil => cases ys with
    | nil => rfl
    | cons y ys => simp [bls] at h
  | cons x xs ih => cases ys with
    | nil => simp [bls] at h
    | cons y ys =>
      simp only [bls, List.map_cons, List.cons.injEq, V.sc.injEq, Value.bool.injEq] at h
      rw [h.1, ih h.2]
@[go_sem] theorem bls_eq (xs ys : List Bool) : (bls xs = bls ys) = (xs = ys) := propext ⟨bls_inj, fun h => by rw [h]⟩
theorem gb_lt (xs : List Bool) (i : Nat) (h : i < xs.length) : gb xs i = xs[i] := by simp [gb, h]
theorem gb_set_same (xs : List Bool) (i : Nat) (b : Bool) (h : i < xs.length) : gb (xs.set i b) i = b := by simp [gb, h]
theorem gb_set_ne (xs : List Bool) (i j : Nat) (b : Bool) (h : i ≠ j) : gb (xs.set i b) j = gb xs j := by simp [gb, h]
theorem vIf_gb {P : Program} {x y : Code} {Q : Exit → AState → Prop} {s : AState} {b : Bool} (h1 : b = true → vc P x Q s) (h2 : b = false → vc P y Q s) : vIf P (.sc (.bool b)) x y Q s := vIf_bool h1 h2
end Go.AG

/-
  AG, part Z: arrays: built from parts, and their elements' addresses. Conditions: none.
-/
set_option linter.unusedSimpArgs false
set_option linter.unusedVariables false
namespace Go.AG
open Go.RowKit

def plR (m : Nat) (i : Nat) : Option (Nat × Nat) := some (i * m, m)
@[go_sem] theorem plR_mk (m i : Nat) : plR m i = some (i * m, m) := _root_.id rfl
@[go_sem] theorem vBuildD_array (P : Program) (ok : Bool) (n : Nat) (e : TypeId) (size bytes : Nat) (zero : List Value) (s : AState) (parts : List (Nat × V)) (d : Option Nat) (K : AState → Prop) :
    vBuildD P ⟨ok, .array n e, size, bytes, zero⟩ s parts d K = grd (ok = true ∧ zero ≠ [] ∧ zero.all Value.oneCell' = true) (grd ((ti P e).ok = true)
      (vFill (plR (ti P e).size) (zero.map V.sc) parts fun cells => fin d K s (.agg cells))) := _root_.id rfl
@[go_sem] theorem reps_4 (z : List V) : reps 4 z = z ++ (z ++ (z ++ (z ++ []))) := _root_.id rfl
@[go_sem] theorem reps_3 (z : List V) : reps 3 z = z ++ (z ++ (z ++ [])) := _root_.id rfl
@[go_sem] theorem reps_2 (z : List V) : reps 2 z = z ++ (z ++ []) := _root_.id rfl
@[go_sem] theorem wr_succL (x : V) (xs : List V) (n : Nat) (ys : List V) : wr (x :: xs) (n + 1) ys = x :: wr xs n ys := by
  simp [wr, Nat.add_right_comm]
def vIAA (m : Nat) (t : TI) (x : V) (n : Int) (K : V → Prop) : Prop := match x with
  | .ip xs off => grd (t.ok = true ∧ 0 ≤ n ∧ n < m) (K (.ip xs (off + n.toNat * t.size)))
  | .ptr l off => grd (t.ok = true ∧ 0 ≤ n ∧ n < m) (K (.ptr l (off + n.toNat * t.size)))
  | _ => False
@[go_sem] theorem vIdxAddr_array (P : Program) (m : Nat) (e : TypeId) (x : V) (k : IntKind) (n : Int) (K : V → Prop) : vIdxAddr P (.array m e) x (.sc (.int k n)) K = vIAA m (ti P e) x n K := _root_.id rfl
@[go_sem] theorem vIAA_ip (m : Nat) (t : TI) (xs : List V) (off : Nat) (n : Int) (K : V → Prop) : vIAA m t (.ip xs off) n K = grd (t.ok = true ∧ 0 ≤ n ∧ n < m) (K (.ip xs (off + n.toNat * t.size))) := _root_.id rfl
@[go_sem] theorem vIAA_ptr (m : Nat) (t : TI) (l off : Nat) (n : Int) (K : V → Prop) : vIAA m t (.ptr l off) n K = grd (t.ok = true ∧ 0 ≤ n ∧ n < m) (K (.ptr l (off + n.toNat * t.size))) := _root_.id rfl
@[congr] theorem vIAA_congr {m : Nat} {t t' : TI} {x x' : V} {n n' : Int} {K : V → Prop} (ht : t = t') (hx : x = x') (hn : n = n') : vIAA m t x n K = vIAA m t' x' n' K := by rw [ht, hx, hn]
@[go_sem] theorem i2n (k : Nat) : (((k : Nat) : Int)).toNat = k := Int.toNat_natCast k
/-! regions of many operations come in chunks -/
@[go_sem] theorem lap_nil {α : Type} (ys : List α) : List.append [] ys = ys := _root_.id rfl
@[go_sem] theorem lap_cons {α : Type} (x : α) (xs ys : List α) : List.append (x :: xs) ys = x :: List.append xs ys := _root_.id rfl
@[go_sem] theorem keep_mk (n k : Nat) (sl : List (Nat × V)) (ob : Objs) (ks : List Nat) : (⟨n, k, sl, ob⟩ : AState).keep ks = ⟨n, k, keepL ⟨n, k, sl, ob⟩ ks, ob⟩ := _root_.id rfl
@[go_sem] theorem keepL_nil (s : AState) : keepL s [] = [] := _root_.id rfl
@[go_sem] theorem keepL_cons (s : AState) (t : Nat) (r : List Nat) : keepL s (t :: r) = (t, s.get t) :: keepL s r := _root_.id rfl
theorem vCallX_keep {P : Program} {s s1 : AState} {fo : Operand} {args : List Operand} {d : Option Nat} {K : AState → Prop} (ks : List Nat) (hs : s.keep ks = s1) (h : vCallX P s1 fo args d K) : vCallX P s fo args d K := by
  obtain ⟨s2, h1, h2⟩ := h
  subst hs
  exact ⟨s2, .keep ks h1, h2⟩
theorem leF_keep {s s1 t : AState} (ks : List Nat) (hs : s.keep ks = s1) (h : leF s1 t) : leF s t := by
  obtain ⟨s2, h1, h2⟩ := h
  subst hs
  exact ⟨s2, .keep ks h1, h2⟩
@[go_sem] theorem oneOrTup_nil : oneOrTup [] = .tup [] := _root_.id rfl
theorem vcLoop_invF {P : Program} {c : Code} {Q : Exit → AState → Prop} {s : AState} {α : Type} (p : α → Prop) (I : α → AState) (μ : α → Nat) (x0 : α) (hp : p x0) (h0 : leF s (I x0)) (h : ∀ x, p x → vc P c (loopK p I μ x Q) (I x)) : vcLoop P c Q s := ⟨Q, .inl rfl, α, p, I, μ, x0, hp, h0, h⟩
theorem againF {α : Type} {p : α → Prop} {I : α → AState} {μ : α → Nat} {x : α} {Q : Exit → AState → Prop} {s : AState} (x' : α) (hp : p x') (h : μ x' < μ x) (hl : leF s (I x')) : loopK p I μ x Q .normal s := ⟨x', hp, h, hl⟩
theorem jnF {β : Type} {p : β → Prop} {J : β → AState} {Q : Exit → AState → Prop} {s : AState} (x : β) (hp : p x) (h : leF s (J x)) : jnN p J Q .normal s := ⟨x, hp, h⟩
theorem jnXF {β : Type} {i : Nat} {p : β → Prop} {J : β → AState} {Q : Exit → AState → Prop} {s : AState} (x : β) (hp : p x) (h : leF s (J x)) : jnX i p J Q (.exit i) s := by
  show (bif Nat.beq i i then ∃ x, p x ∧ leF s (J x) else Q (.exit i) s)
  rw [Nat.beq_refl]
  exact ⟨x, hp, h⟩
end Go.AG

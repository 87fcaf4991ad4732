/-
  AG, part N: more rules for simp: lists of numbers, objects, weaker states, calls. Conditions: none.
-/
import Derived.Test.YtkgfpephkinocaaAgM
set_option linter.unusedSimpArgs false
set_option linter.unusedVariables false
namespace Go.AG
open Go.RowKit

attribute [go_sem] argSl if_true if_false decide_true decide_false beq_self_eq_true bne_self_eq_false List.length_append List.length_take List.length_drop List.length_replicate List.length_set List.length_map List.idxOf_cons_self V.kill V.killL V.frz V.frzL V.imm V.immL V.one V.oneL V.flat V.flatL V.noref V.norefL V.ren V.renL V.refs V.refsL vcells zerosOf AD.agg
  cond_true cond_false List.length_cons List.length_nil List.map_cons List.map_nil List.cons_append List.nil_append List.append_nil List.append_assoc
  Option.map_some Option.map_none Int.toNat_natCast Nat.mul_one Nat.one_mul Nat.zero_add Nat.add_zero Nat.zero_mul Nat.mul_zero Int.toNat_zero true_and and_true
  not_false_eq_true ne_eq reduceCtorEq List.set_cons_zero List.set_cons_succ gt_iff_lt ge_iff_le and_self List.drop_zero List.take_zero Nat.zero_le Int.zero_add Int.add_zero Int.sub_zero
  Bool.and_true Bool.true_and Bool.and_self Bool.false_and Bool.and_false Bool.not_true Bool.not_false List.all_cons List.all_nil Value.oneCell' List.drop_succ_cons List.take_succ_cons List.take_nil List.drop_nil

@[go_sem] theorem idx_cons (a b : Nat) (l : List Nat) : (b :: l).idxOf a = if b = a then 0 else l.idxOf a + 1 := by
  by_cases h : b = a
  · subst h; simp
  · have : (b == a) = false := by simpa using h
    simp [List.idxOf_cons, h, this]
@[go_sem] theorem cast_succ (k : Nat) : ((k + 1 : Nat) : Int) = (k : Int) + 1 := rfl
@[go_sem] theorem cast_zero : ((0 : Nat) : Int) = 0 := rfl
@[go_sem] theorem toList_arr {α : Type} (xs : List α) : xs.toArray.toList = xs := rfl
@[go_sem] theorem all_arr0 : (#[] : Array Operand).toList = [] := rfl

/-- a list of numbers, as cells -/
def ints (xs : List Int) : List V := xs.map fun n => .sc (.int .i64 n)
/-- the number at a place; 0 beyond the end -/
def gi (xs : List Int) (i : Nat) : Int := xs.getD i 0
/-- a list of numbers, as a value -/
def iS (xs : List Int) : V := .sl xs.length (ints xs)
/-- an owned list of numbers -/
def oI (xs : List Int) : Option Ob := some ⟨1, ints xs⟩
attribute [go_sem] iS oI
/-- numbers -/
abbrev I (n : Int) : V := .sc (.int .i64 n)
abbrev B (b : Bool) : V := .sc (.bool b)
abbrev nilS : V := .sc (.slice none 0 0)

@[go_sem] theorem length_ints (xs : List Int) : (ints xs).length = xs.length := by simp [ints]
@[go_sem] theorem ints_nil : ints [] = [] := rfl
@[go_sem] theorem ints_append (xs ys : List Int) : ints xs ++ ints ys = ints (xs ++ ys) := by simp [ints]
@[go_sem] theorem ints_snoc (xs : List Int) (n : Int) : ints xs ++ [.sc (.int .i64 n)] = ints (xs ++ [n]) := by simp [ints]
theorem ints_one (n : Int) : [V.sc (.int .i64 n)] = ints [n] := rfl
theorem ints_cons (n : Int) (xs : List Int) : V.sc (.int .i64 n) :: ints xs = ints (n :: xs) := rfl
@[go_sem] theorem ints_take_all (xs : List Int) (n : Nat) (h : xs.length ≤ n) : (ints xs).take n = ints xs := by rw [List.take_of_length_le (by simpa [ints] using h)]
@[go_sem low] theorem ints_take (xs : List Int) (n : Nat) : (ints xs).take n = ints (xs.take n) := by simp [ints, List.map_take]
@[go_sem] theorem ints_drop (xs : List Int) (n : Nat) : (ints xs).drop n = ints (xs.drop n) := by simp [ints, List.map_drop]
@[go_sem] theorem ints_replicate (n : Nat) (z : Int) : List.replicate n (V.sc (.int .i64 z)) = ints (List.replicate n z) := by simp [ints]
@[go_sem] theorem reps_ints (n : Nat) (z : Int) : reps n [.sc (.int .i64 z)] = ints (List.replicate n z) := by rw [reps_one, ints_replicate]
@[go_sem] theorem reps_zero (zs : List V) : reps 0 zs = [] := rfl
@[go_sem low] theorem reps_one' (n : Nat) (z : V) : reps n [z] = List.replicate n z := reps_one n z
@[go_sem] theorem ints_inj (xs ys : List Int) : (ints xs = ints ys) = (xs = ys) := by
  apply propext
  constructor
  · intro h
    induction xs generalizing ys with
    | nil => cases ys with
      | nil => rfl
      | cons y ys => simp [ints] at h
    | cons x xs ih => cases ys with
      | nil => simp [ints] at h
      | cons y ys =>
        simp only [ints, List.map_cons, List.cons.injEq, V.sc.injEq, Value.int.injEq, true_and] at h
        rw [h.1, ih ys h.2]
  · intro h; rw [h]
@[go_sem] theorem nil_ints (ys : List Int) : (([] : List V) = ints ys) = (([] : List Int) = ys) := ints_inj [] ys
@[go_sem] theorem ints_nil' (ys : List Int) : (ints ys = []) = (ys = []) := by rw [← ints_inj ys []]; rfl
@[go_sem] theorem wr_ints (xs : List Int) (i : Nat) (n : Int) : wr (ints xs) i [.sc (.int .i64 n)] = ints (wr xs i [n]) := by simp [wr, ints, List.map_take, List.map_drop]
theorem wr_set {α : Type} (xs : List α) (i : Nat) (n : α) (h : i < xs.length) : wr xs i [n] = xs.set i n := by
  apply List.ext_getElem?
  intro j
  rw [get_wr _ _ _ (by simp; omega), List.getElem?_set]
  by_cases hj : i = j
  · subst hj; simp [h]
  · rw [if_neg hj]
    split
    · rfl
    · rw [if_neg (by simp; omega)]
@[go_sem] theorem wr_set' (xs : List Int) (i : Nat) (n : Int) (h : i < xs.length) : wr xs i [n] = xs.set i n := wr_set xs i n h
@[go_sem] theorem length_wr1 (xs : List Int) (i : Nat) (n : Int) (h : i < xs.length) : (wr xs i [n]).length = xs.length := by rw [wr_set xs i n h, List.length_set]
@[go_sem] theorem wr_zero (x : V) (xs : List V) (y : V) : wr (x :: xs) 0 [y] = y :: xs := by simp [wr]
@[go_sem] theorem wr_succ (x : V) (xs : List V) (n : Nat) (y : V) : wr (x :: xs) (n + 1) [y] = x :: wr xs n [y] := by simp [wr, Nat.add_right_comm]
@[go_sem] theorem vAt_ints (xs : List Int) (i : Nat) (K : V → Prop) : vAt (ints xs) i K = grd (i < xs.length) (K (.sc (.int .i64 (gi xs i)))) := by
  by_cases h : i < xs.length <;> simp [vAt, ints, gi, h, grd]
@[go_sem] theorem imm_ints (xs : List Int) : V.immL (ints xs) = true := by induction xs with | nil => rfl | cons x xs ih => simpa [ints, V.immL, V.imm] using ih
@[go_sem] theorem one_ints (xs : List Int) : V.oneL (ints xs) = true := by induction xs with | nil => rfl | cons x xs ih => simpa [ints, V.oneL, V.one, Value.oneCell'] using ih
@[go_sem] theorem flat_ints (xs : List Int) : V.flatL (ints xs) = true := by induction xs with | nil => rfl | cons x xs ih => simpa [ints, V.flatL, V.flat] using ih
@[go_sem] theorem noref_ints (xs : List Int) : V.norefL (ints xs) = true := by induction xs with | nil => rfl | cons x xs ih => simpa [ints, V.norefL, V.noref] using ih
@[go_sem] theorem kill_ints (p : Nat → Bool) (xs : List Int) : V.killL p (ints xs) = ints xs := by simp [killL_eq, ints, V.kill]
@[go_sem] theorem frz_ints (f : Nat → Option Ob) (xs : List Int) : V.frzL f (ints xs) = ints xs := by simp [frzL_eq, ints, V.frz]
@[go_sem] theorem ren_ints (g : Nat → Nat) (xs : List Int) : V.renL g (ints xs) = ints xs := by simp [renL_eq, ints, V.ren]
theorem kill_append (p : Nat → Bool) (xs ys : List V) : V.killL p (xs ++ ys) = V.killL p xs ++ V.killL p ys := by simp [killL_eq]
theorem frz_append (f : Nat → Option Ob) (xs ys : List V) : V.frzL f (xs ++ ys) = V.frzL f xs ++ V.frzL f ys := by simp [frzL_eq]
attribute [go_sem] kill_append frz_append immL_append oneL_append

mutual
theorem kill_noref (p : Nat → Bool) (x : V) (h : x.noref = true) : x.kill p = x := by
  cases x with
  | fn g caps => simp only [V.noref] at h; simp only [V.kill]; rw [killL_noref p caps h]
  | agg xs => simp only [V.noref] at h; simp only [V.kill]; rw [killL_noref p xs h]
  | tup xs => simp only [V.noref] at h; simp only [V.kill]; rw [killL_noref p xs h]
  | ref => simp [V.noref] at h
  | ptr => simp [V.noref] at h
  | _ => rfl
theorem killL_noref (p : Nat → Bool) (xs : List V) (h : V.norefL xs = true) : V.killL p xs = xs := by
  cases xs with
  | nil => rfl
  | cons x xs =>
    simp only [V.norefL, Bool.and_eq_true] at h
    simp only [V.killL]
    rw [kill_noref p x h.1, killL_noref p xs h.2]
end

/-! ### memory -/

section
variable {P : Program} (K : V → Prop)
@[go_sem] theorem vFill_nil (pl : Nat → Option (Nat × Nat)) (cells : List V) (K : List V → Prop) : vFill pl cells [] K = K cells := rfl
def vFill1 (at_ : Option (Nat × Nat)) (cells : List V) (x : V) (K : List V → Prop) : Prop := match at_ with
  | some (off, size) => grd ((vcells x).length = size ∧ off + size ≤ cells.length ∧ V.oneL (vcells x) = true) (K (wr cells off (vcells x)))
  | none => False
@[go_sem] theorem vFill_cons (pl : Nat → Option (Nat × Nat)) (cells : List V) (i : Nat) (x : V) (r : List (Nat × V)) (K : List V → Prop) : vFill pl cells ((i, x) :: r) K = vFill1 (pl i) cells x (fun cs => vFill pl cs r K) := rfl
@[go_sem] theorem vFill1_mk (off size : Nat) (cells : List V) (x : V) (K : List V → Prop) : vFill1 (some (off, size)) cells x K = grd ((vcells x).length = size ∧ off + size ≤ cells.length ∧ V.oneL (vcells x) = true) (K (wr cells off (vcells x))) := rfl
@[congr] theorem vFill1_congr {a a' : Option (Nat × Nat)} {c c' : List V} {x x' : V} {K : List V → Prop} (ha : a = a') (hc : c = c') (hx : x = x') : vFill1 a c x K = vFill1 a' c' x' K := by rw [ha, hc, hx]
@[congr] theorem vFill_congr {pl : Nat → Option (Nat × Nat)} {c c' : List V} {r r' : List (Nat × V)} {K : List V → Prop} (hc : c = c') (hr : r = r') : vFill pl c r K = vFill pl c' r' K := by rw [hc, hr]
@[go_sem] theorem vMkD_slice (e : TypeId) (s : AState) (len : Nat) (parts : List (Nat × V)) (d : Option Nat) (K : AState → Prop) : vMkD P (.slice e) s len parts d K = vMkRow (ti P e) s len parts d K := rfl
@[congr] theorem vMkD_congr {a a' : AD} {s s' : AState} {len : Nat} {ps ps' : List (Nat × V)} {d : Option Nat} {K : AState → Prop} (ha : a = a') (hs : s = s') (hp : ps = ps') : vMkD P a s len ps d K = vMkD P a' s' len ps' d K := by rw [ha, hs, hp]
@[go_sem] theorem vMkRow_mk (ok : Bool) (ad : AD) (size bytes : Nat) (zero : List Value) (s : AState) (len : Nat) (parts : List (Nat × V)) (d : Option Nat) (K : AState → Prop) :
    vMkRow ⟨ok, ad, size, bytes, zero⟩ s len parts d K = grd (ok = true ∧ zero.length = size ∧ 0 < size ∧ zero.all Value.oneCell' = true ∧ len * size ≤ 16777216 ∧ s.k ≤ s.ob.length)
    (vFill (fun i => some (i * size, size)) (reps len (zero.map V.sc)) parts fun cells => fin d K (s.add ⟨size, cells⟩) (.ref s.ob.length 0 len)) := rfl
@[congr] theorem vMkRow_congr {t t' : TI} {s s' : AState} {len : Nat} {ps ps' : List (Nat × V)} {d : Option Nat} {K : AState → Prop} (ht : t = t') (hs : s = s') (hp : ps = ps') : vMkRow t s len ps d K = vMkRow t' s' len ps' d K := by rw [ht, hs, hp]
@[go_sem] theorem vMakeD_slice (e : TypeId) (s : AState) (l c : V) (d : Option Nat) (K : AState → Prop) : vMakeD P (.slice e) s l c d K = vMake (ti P e) s l c d K := rfl
@[congr] theorem vMakeD_congr {a a' : AD} {s s' : AState} {l l' c c' : V} {d : Option Nat} {K : AState → Prop} (ha : a = a') (hs : s = s') (hl : l = l') (hc : c = c') : vMakeD P a s l c d K = vMakeD P a' s' l' c' d K := by rw [ha, hs, hl, hc]
@[go_sem] theorem vMake_mk (ok : Bool) (ad : AD) (size bytes : Nat) (zero : List Value) (s : AState) (kl kc : IntKind) (l c : Int) (d : Option Nat) (K : AState → Prop) :
    vMake ⟨ok, ad, size, bytes, zero⟩ s (.sc (.int kl l)) (.sc (.int kc c)) d K = grd (ok = true ∧ zero.length = size ∧ 0 < size ∧ zero.all Value.oneCell' = true ∧ s.k ≤ s.ob.length)
        (grd (0 ≤ l ∧ l ≤ c ∧ (bytes : Int) * c ≤ 140737488355328 ∧ c ≤ 9223372036854775807) (fin d K (s.add ⟨size, reps l.toNat (zero.map V.sc)⟩) (.ref s.ob.length 0 l.toNat))) := rfl
@[congr] theorem vMake_congr {t t' : TI} {s s' : AState} {l l' c c' : V} {d : Option Nat} {K : AState → Prop} (ht : t = t') (hs : s = s') (hl : l = l') (hc : c = c') : vMake t s l c d K = vMake t' s' l' c' d K := by rw [ht, hs, hl, hc]
@[go_sem] theorem vAppD_slice (e : TypeId) (s : AState) (x y : V) (d : Option Nat) (K : AState → Prop) : vAppD P (.slice e) s x y d K = vAppend (ti P e) s x y d K := rfl
@[congr] theorem vAppD_congr {a a' : AD} {s s' : AState} {l l' c c' : V} {d : Option Nat} {K : AState → Prop} (ha : a = a') (hs : s = s') (hl : l = l') (hc : c = c') : vAppD P a s l c d K = vAppD P a' s' l' c' d K := by rw [ha, hs, hl, hc]
@[go_sem] theorem vAppend_mk (t : TI) (s : AState) (x y : V) (d : Option Nat) (K : AState → Prop) : vAppend t s x y d K = grd (t.ok = true ∧ t.zero.length = t.size ∧ 0 < t.size) (vNews s.ob t.size y fun m news => vApp t s x m news d K) := rfl
@[congr] theorem vAppend_congr {t t' : TI} {s s' : AState} {l l' c c' : V} {d : Option Nat} {K : AState → Prop} (ht : t = t') (hs : s = s') (hl : l = l') (hc : c = c') : vAppend t s l c d K = vAppend t' s' l' c' d K := by rw [ht, hs, hl, hc]
@[go_sem] theorem vNews_sl (ob : Objs) (size m : Nat) (xs : List V) (K : Nat → List V → Prop) : vNews ob size (.sl m xs) K = grd (xs.length = m * size ∧ V.oneL xs = true) (K m xs) := rfl
@[go_sem] theorem vNews_ref (ob : Objs) (size l off m : Nat) (K : Nat → List V → Prop) : vNews ob size (.ref l off m) K = vObj ob l fun o => grd (o.esz = size ∧ off + m * size ≤ o.cells.length) (K m ((o.cells.drop off).take (m * size))) := rfl
@[go_sem] theorem vNews_nil (ob : Objs) (size : Nat) (K : Nat → List V → Prop) : vNews ob size (.sc (.slice none 0 0)) K = K 0 [] := rfl
@[congr] theorem vNews_congr {ob ob' : Objs} {z z' : Nat} {y y' : V} {K : Nat → List V → Prop} (ho : ob = ob') (hz : z = z') (hy : y = y') : vNews ob z y K = vNews ob' z' y' K := by rw [ho, hz, hy]
@[go_sem] theorem vApp_ref (t : TI) (s : AState) (l off len m : Nat) (news : List V) (d : Option Nat) (K : AState → Prop) : vApp t s (.ref l off len) m news d K = grd (s.k ≤ l) (vObj s.ob l fun o =>
        grd (o.esz = t.size ∧ off + len * t.size ≤ o.cells.length) (grd ((len + m) * t.bytes ≤ 140737488355328 ∧ len + m ≤ 9223372036854775807)
          (fin d K (s.grown l t.size ((o.cells.drop off).take (len * t.size) ++ news)) (.ref l 0 (len + m))))) := rfl
@[go_sem] theorem vApp_nil (t : TI) (s : AState) (m : Nat) (news : List V) (d : Option Nat) (K : AState → Prop) : vApp t s (.sc (.slice none 0 0)) m news d K = grd (s.k ≤ s.ob.length ∧ 1 ≤ m) (grd (m * t.bytes ≤ 140737488355328 ∧ m ≤ 9223372036854775807)
          (fin d K (s.add ⟨t.size, news⟩) (.ref s.ob.length 0 m))) := rfl
@[congr] theorem vApp_congr {t t' : TI} {s s' : AState} {x x' : V} {m m' : Nat} {ns ns' : List V} {d : Option Nat} {K : AState → Prop} (ht : t = t') (hs : s = s') (hx : x = x') (hm : m = m') (hn : ns = ns') : vApp t s x m ns d K = vApp t' s' x' m' ns' d K := by rw [ht, hs, hx, hm, hn]
@[go_sem] theorem vStore_ptr (n k : Nat) (sl : List (Nat × V)) (ob : Objs) (t : TI) (l off : Nat) (x : V) (K : AState → Prop) : vStore ⟨n, k, sl, ob⟩ t (.ptr l off) x K = vObj ob l fun o =>
    grd (t.ok = true ∧ (vcells x).length = t.size ∧ V.oneL (vcells x) = true ∧ off + (vcells x).length ≤ o.cells.length) (K ⟨n, k, sl, ob.set l (some ⟨o.esz, wr o.cells off (vcells x)⟩)⟩) := rfl
@[congr] theorem vStore_congr {s s' : AState} {t t' : TI} {q q' x x' : V} {K : AState → Prop} (hs : s = s') (ht : t = t') (hq : q = q') (hx : x = x') : vStore s t q x K = vStore s' t' q' x' K := by rw [hs, ht, hq, hx]
/-- a slice's part -/
def vSl (t : TI) (ob : Objs) (x : V) (lo hi : Option V) (K : V → Prop) : Prop := match x with
    | .sl len xs => boundV lo 0 fun l => boundV hi len fun h => grd (t.ok = true ∧ 0 ≤ l ∧ l ≤ h ∧ h ≤ len) (K (.sl (h - l).toNat ((xs.drop (l.toNat * t.size)).take ((h - l).toNat * t.size))))
    | .ref o off len => boundV lo 0 fun l => boundV hi len fun h => grd (t.ok = true ∧ 0 ≤ l ∧ l ≤ h ∧ h ≤ len) (vObj ob o fun q => grd (q.esz = t.size) (K (.ref o (off + l.toNat * t.size) (h - l).toNat)))
    | _ => False
@[go_sem] theorem vSlice_slice (e : TypeId) (ob : Objs) (x : V) (lo hi : Option V) : vSlice P ob (.slice e) x lo hi K = vSl (ti P e) ob x lo hi K := rfl
@[go_sem] theorem vSl_sl (t : TI) (ob : Objs) (len : Nat) (xs : List V) (lo hi : Option V) : vSl t ob (.sl len xs) lo hi K = boundV lo 0 fun l => boundV hi len fun h => grd (t.ok = true ∧ 0 ≤ l ∧ l ≤ h ∧ h ≤ len) (K (.sl (h - l).toNat ((xs.drop (l.toNat * t.size)).take ((h - l).toNat * t.size)))) := rfl
@[go_sem] theorem vSl_ref (t : TI) (ob : Objs) (o off len : Nat) (lo hi : Option V) : vSl t ob (.ref o off len) lo hi K = boundV lo 0 fun l => boundV hi len fun h => grd (t.ok = true ∧ 0 ≤ l ∧ l ≤ h ∧ h ≤ len) (vObj ob o fun q => grd (q.esz = t.size) (K (.ref o (off + l.toNat * t.size) (h - l).toNat))) := rfl
@[congr] theorem vSl_congr {t t' : TI} {ob ob' : Objs} {x x' : V} {lo lo' hi hi' : Option V} {K : V → Prop} (ht : t = t') (ho : ob = ob') (hx : x = x') (hl : lo = lo') (hh : hi = hi') : vSl t ob x lo hi K = vSl t' ob' x' lo' hi' K := by rw [ht, ho, hx, hl, hh]
@[go_sem] theorem vSlice_string (ob : Objs) (s : ByteArray) (lo hi : Option V) : vSlice P ob .string (.sc (.string s)) lo hi K = boundV lo 0 fun l => boundV hi s.size fun h => grd (0 ≤ l ∧ l ≤ h ∧ h ≤ s.size) (K (.sc (.string (s.extract l.toNat h.toNat)))) := rfl
@[congr] theorem vSlice_congr {ob ob' : Objs} {a a' : AD} {x x' : V} {lo lo' hi hi' : Option V} {K : V → Prop} (ha : a = a') (ho : ob = ob') (hx : x = x') (hl : lo = lo') (hh : hi = hi') : vSlice P ob a x lo hi K = vSlice P ob' a' x' lo' hi' K := by rw [ha, ho, hx, hl, hh]
@[go_sem] theorem boundV_none (dflt : Int) (K : Int → Prop) : boundV none dflt K = K dflt := rfl
@[go_sem] theorem boundV_some (k : IntKind) (n dflt : Int) (K : Int → Prop) : boundV (some (.sc (.int k n))) dflt K = K n := rfl
@[congr] theorem boundV_congr {x x' : Option V} {d d' : Int} {K : Int → Prop} (hx : x = x') (hd : d = d') : boundV x d K = boundV x' d' K := by rw [hx, hd]
end

/-! ### weaker states -/

section
variable (n k : Nat) (sl : List (Nat × V)) (ob : Objs)
@[go_sem] theorem leS_mk (n' k' : Nat) (sl' : List (Nat × V)) (ob' : Objs) : leS ⟨n, k, sl, ob⟩ ⟨n', k', sl', ob'⟩ = (n = n' ∧ k = k' ∧ k' ≤ ob'.length ∧ leSl (fromB ob'.length) ⟨n, k, sl, ob⟩ sl' ∧ leOb (fromB ob'.length) ob' ob) := rfl
@[go_sem] theorem leSl_nil (p : Nat → Bool) (s : AState) : leSl p s [] = True := rfl
@[go_sem] theorem leSl_cons (p : Nat → Bool) (s : AState) (t : Nat) (x : V) (r : List (Nat × V)) : leSl p s ((t, x) :: r) = (V.le ((s.get t).kill p) x ∧ leSl p s r) := rfl
@[go_sem] theorem leOb_nil (p : Nat → Bool) (ob : Objs) : leOb p [] ob = True := by cases ob <;> rfl
@[go_sem] theorem leOb_none (p : Nat → Bool) (r r' : Objs) : leOb p (none :: r) (none :: r') = leOb p r r' := rfl
@[go_sem] theorem leOb_some (p : Nat → Bool) (o o' : Ob) (r r' : Objs) : leOb p (some o :: r) (some o' :: r') = ((o.esz = o'.esz ∧ V.killL p o'.cells = o.cells) ∧ leOb p r r') := rfl
@[go_sem] theorem fromB_dec (m i : Nat) : fromB m i = decide (m ≤ i) := by
  unfold fromB
  cases h : Nat.ble m i with
  | true => simp [Nat.le_of_ble_eq_true h]
  | false =>
    have : ¬ m ≤ i := fun hle => by have := Nat.ble_eq_true_of_le hle; rw [h] at this; cases this
    simp [this]
@[go_sem] theorem killB_dec (l i : Nat) : killB l i = decide (i = l) := by
  by_cases h : i = l
  · subst h; simp [killB]
  · rw [killB_ne h]; simp [h]
@[go_sem] theorem oneF_dec (l i : Nat) (o : Ob) : oneF l o i = if i = l then some o else none := by
  unfold oneF
  by_cases h : i = l
  · subst h; simp
  · have : Nat.beq i l = false := by
      cases hb : Nat.beq i l with
      | false => rfl
      | true => exact absurd (Nat.eq_of_beq_eq_true hb) h
    simp [this, h]
@[go_sem] theorem viewF_zero (o : Ob) (r : Objs) : viewF (some o :: r) 0 = bif V.immL o.cells then some o else none := rfl
@[go_sem] theorem viewF_none (r : Objs) : viewF (none :: r) 0 = none := rfl
@[go_sem] theorem viewF_succ (x : Option Ob) (r : Objs) (i : Nat) : viewF (x :: r) (i + 1) = viewF r i := rfl
@[go_sem] theorem le_self (x : V) : V.le x x = True := by simp [V.le]
@[go_sem] theorem le_junk (x : V) : V.le x .junk = True := by simp [V.le]
@[go_sem] theorem le_nil : V.le (.sc (.slice none 0 0)) (.sl 0 []) = True := by simp [V.le]
@[go_sem] theorem le_int (k k' : IntKind) (a b : Int) : V.le (.sc (.int k a)) (.sc (.int k' b)) = (k = k' ∧ a = b) := by simp [V.le]
@[go_sem] theorem le_bool (a b : Bool) : V.le (.sc (.bool a)) (.sc (.bool b)) = (a = b) := by simp [V.le]
@[go_sem] theorem le_ref (l o n l' o' n' : Nat) : V.le (.ref l o n) (.ref l' o' n') = (l = l' ∧ o = o' ∧ n = n') := by simp [V.le]
@[go_sem] theorem le_ptr (l o l' o' : Nat) : V.le (.ptr l o) (.ptr l' o') = (l = l' ∧ o = o') := by simp [V.le]
@[go_sem] theorem le_sl (n m : Nat) (xs ys : List V) : V.le (.sl n xs) (.sl m ys) = (n = m ∧ xs = ys) := by simp [V.le]
end

/-! ### calls and results -/

section
variable {P : Program}
theorem vCallX_of {s : AState} {fo : Operand} {args : List Operand} {d : Option Nat} {K : AState → Prop} (h : vCall P s (s.ev fo) (args.map s.ev) d K) : vCallX P s fo args d K := ⟨s, .refl s, .inl h⟩
theorem vCallX_frz {s s1 : AState} {fo : Operand} {args : List Operand} {d : Option Nat} {K : AState → Prop} (hf : Frz s s1) (h : vCall P s1 (s1.ev fo) (args.map s1.ev) d K) : vCallX P s fo args d K := ⟨s1, hf, .inl h⟩
@[congr] theorem vCallX_congr {s s' : AState} {fo : Operand} {args : List Operand} {d : Option Nat} {K : AState → Prop} (h : s = s') : vCallX P s fo args d K = vCallX P s' fo args d K := by rw [h]
@[congr] theorem vCall_congr {s s' : AState} {f f' : V} {args args' : List V} {d : Option Nat} {K : AState → Prop} (h : s = s') (hf : f = f') (ha : args = args') : vCall P s f args d K = vCall P s' f' args' d K := by rw [h, hf, ha]
@[congr] theorem vqCall_congr {s s' : AState} {f f' : V} {args args' : List V} {d : Option Nat} {K : AState → Prop} (h : s = s') (hf : f = f') (ha : args = args') : vqCall P s f args d K = vqCall P s' f' args' d K := by rw [h, hf, ha]

/-- a call whose result is known -/
theorem vCall_eq {n k : Nat} {sl : List (Nat × V)} {ob : Objs} {f : FuncId} {caps args args' : List V} {d : Option Nat} {K : AState → Prop} {R : V} {O : Objs} (h : ACalls P f args' [] (fun r o => r = R ∧ o = O))
    (ha : V.frzL (viewF ob) (args ++ caps) = args') (hn : V.norefL args' = true) (hf : V.norefL (args ++ caps) = true ∨ (R.flat = true ∧ flatO O = true)) (hk : fin d K ⟨n, k, sl, ob ++ O⟩ (R.ren fun l => l + ob.length)) :
    vCall P ⟨n, k, sl, ob⟩ (.fn f caps) args d K := by
  subst ha
  exact ⟨_, h, hn, fun r ob' ⟨hr, ho⟩ => by subst hr ho; exact ⟨hf, hk⟩⟩
/-- a call of whose result something is known -/
theorem vCall_ex {n k : Nat} {sl : List (Nat × V)} {ob : Objs} {f : FuncId} {caps args args' : List V} {d : Option Nat} {K : AState → Prop} {Q : V → Objs → Prop} (h : ACalls P f args' [] Q)
    (ha : V.frzL (viewF ob) (args ++ caps) = args') (hn : V.norefL args' = true) (hk : ∀ R O, Q R O → (V.norefL (args ++ caps) = true ∨ (R.flat = true ∧ flatO O = true)) ∧ fin d K ⟨n, k, sl, ob ++ O⟩ (R.ren fun l => l + ob.length)) :
    vCall P ⟨n, k, sl, ob⟩ (.fn f caps) args d K := by
  subst ha
  exact ⟨_, h, hn, hk⟩
theorem vCallX_io {s : AState} {fo : Operand} {args : List Operand} {d : Option Nat} {K : AState → Prop} (ls : List Nat) (h : vCallIO P s ls (s.ev fo) (args.map s.ev) d K) : vCallX P s fo args d K := ⟨s, .refl s, .inr ⟨ls, h⟩⟩
@[congr] theorem vCallIO_congr {s s' : AState} {ls : List Nat} {f f' : V} {args args' : List V} {d : Option Nat} {K : AState → Prop} (h : s = s') (hf : f = f') (ha : args = args') : vCallIO P s ls f args d K = vCallIO P s' ls f' args' d K := by rw [h, hf, ha]
/-- a call that writes some objects, its result known -/
theorem vCallIO_eq {n k : Nat} {sl : List (Nat × V)} {ob obc : Objs} {ls : List Nat} {f : FuncId} {caps args args' : List V} {d : Option Nat} {K : AState → Prop} {R : V} {O : Objs} (h : ACalls P f args' obc (fun r o => r = R ∧ o = O))
    (ha : V.renL (ls.idxOf ·) (args ++ caps) = args') (ho : ls.map (obAt ob) = obc) (hn : nodupB ls = true) (hl : liveImm ob ls = true) (hr : (V.refsL (args ++ caps)).all (fun l => ls.elem l) = true) (hok : ioOk ob ls O)
    (hk : fin d K ⟨n, k, sl, putAll ob ls O ++ O.drop ls.length⟩ (R.ren (ioN ls ob.length))) : vCallIO P ⟨n, k, sl, ob⟩ ls (.fn f caps) args d K := by
  subst ha ho
  exact ⟨hn, hl, fun l hl => by simpa using List.all_eq_true.1 hr l hl, _, h, fun r ob' ⟨h1, h2⟩ => by subst h1 h2; exact ⟨hok, hk⟩⟩
/-- a call in an open region -/
theorem vqCall_eq {s : AState} {f : FuncId} {caps args args' : List V} {d : Option Nat} {K : AState → Prop} {v : Value} {O : Objs} (h : ACalls P f args' [] (fun r o => r = .sc v ∧ o = O))
    (ha : V.frzL (viewF s.ob) (args ++ caps) = args') (hn : V.norefL args' = true) (hk : fin d K s (.sc v)) : vqCall P s (.fn f caps) args d K := by
  subst ha
  exact ⟨v, h.mono fun _ _ h => h.1, hn, hk⟩
theorem vDraw_of {ops : Array Oper} {K : AState → Prop} {s : AState} (h1 : P.follows .mixedOrders = true) (h2 : Region.lexB .any ops = true) (h : vqOps P ops.toList ops.toList K s) : vDraw P ops K s := ⟨h1, .inl ⟨h2, h⟩⟩
theorem vDraw_tail {ops : Array Oper} {K : AState → Prop} {s : AState} (n : Nat) (h1 : P.follows .mixedOrders = true) (h2 : Region.lexTailB .any ops n = true) (h : vqOps P ops.toList (ops.toList.take n) (vcOps P ops.toList (ops.toList.drop n) K) s) : vDraw P ops K s := ⟨h1, .inr (.inl ⟨n, h2, h⟩)⟩
theorem vDraw_sch {ops : Array Oper} {K : AState → Prop} {s : AState} (n : Nat) (sch : List Nat) (h1 : P.follows .mixedOrders = true) (h2 : schOk .any ops n sch = true) (h : vSch P ops.toList (vcOps P ops.toList (ops.toList.drop n) K) (sch.map (nthO ops.toList)) [] s) : vDraw P ops K s := ⟨h1, .inr (.inr ⟨n, sch, h2, h⟩)⟩

@[go_sem] theorem retQ_ret (rs : List ResultVar) (Q : V → Objs → Prop) : retQ P rs Q .ret = retK P rs Q := rfl
@[go_sem] theorem retQ_normal (rs : List ResultVar) (Q : V → Objs → Prop) : retQ P rs Q .normal = retK P rs Q := rfl
@[congr] theorem retK_congr {rs : List ResultVar} {Q : V → Objs → Prop} {s s' : AState} (h : s = s') : retK P rs Q s = retK P rs Q s' := by rw [h]
theorem retK_of {rs : List ResultVar} {Q : V → Objs → Prop} {s : AState} (h : vRes P s rs fun xs => vRet s.k s.ob (oneOrTup xs) Q) : retK P rs Q s := ⟨s, .refl s, h⟩
theorem retK_frz {rs : List ResultVar} {Q : V → Objs → Prop} {s s1 : AState} (hf : Frz s s1) (h : vRes P s1 rs fun xs => vRet s1.k s1.ob (oneOrTup xs) Q) : retK P rs Q s := ⟨s1, hf, h⟩
@[go_sem] theorem vRes_nil (s : AState) (K : List V → Prop) : vRes P s [] K = K [] := rfl
@[go_sem] theorem vRes_tmp (s : AState) (t : Tmp) (r : List ResultVar) (K : List V → Prop) : vRes P s (.tmp t :: r) K = vRes P s r fun xs => K (s.get t :: xs) := rfl
@[go_sem] theorem vRes_cell (s : AState) (c : Tmp) (t : TypeId) (r : List ResultVar) (K : List V → Prop) : vRes P s (.cell c t :: r) K = vLoad (ti P t) (s.get c) s.ob fun x => vRes P s r fun xs => K (x :: xs) := rfl
@[go_sem] theorem oneOrTup_one (x : V) : oneOrTup [x] = x := rfl
@[go_sem] theorem oneOrTup_two (x y : V) (r : List V) : oneOrTup (x :: y :: r) = .tup (x :: y :: r) := rfl
attribute [go_sem] vRet rls nodupB immO liveImm flatO rnm List.filter_cons List.filter_nil List.elem_nil
@[go_sem] theorem obAt_zero (o : Ob) (r : Objs) : obAt (some o :: r) 0 = some o := rfl
@[go_sem] theorem obAt_succ (x : Option Ob) (r : Objs) (i : Nat) : obAt (x :: r) (i + 1) = obAt r i := rfl
@[go_sem] theorem ble_dec (a b : Nat) : Nat.ble a b = decide (a ≤ b) := by
  cases h : Nat.ble a b with
  | true => simp [Nat.le_of_ble_eq_true h]
  | false =>
    have : ¬ a ≤ b := fun hle => by have := Nat.ble_eq_true_of_le hle; rw [h] at this; cases this
    simp [this]
attribute [go_sem] putAll ioOk ioN List.getD_cons_zero List.getD_cons_succ
@[go_sem] theorem blt_dec (a b : Nat) : Nat.blt a b = decide (a < b) := by
  unfold Nat.blt
  rw [ble_dec]
  rfl
end

/-! ### arithmetic -/

@[go_sem] theorem wrap_i64_id (x : Int) (h : -9223372036854775808 ≤ x ∧ x ≤ 9223372036854775807) : IntKind.wrap .i64 x = x := by
  rw [IntKind.wrap_i64]
  omega
@[go_sem low] theorem dec_t (p : Prop) [Decidable p] (h : p) : decide p = true := decide_eq_true h
@[go_sem low] theorem dec_f (p : Prop) [Decidable p] (h : ¬ p) : decide p = false := decide_eq_false h
@[go_sem low] theorem beq_t (x y : Int) (h : x = y) : (x == y) = true := by simp [h]
@[go_sem low] theorem beq_f (x y : Int) (h : x ≠ y) : (x == y) = false := by simp [h]
@[go_sem low] theorem bne_t (x y : Int) (h : x ≠ y) : (x != y) = true := by simp [h]
@[go_sem low] theorem bne_f (x y : Int) (h : x = y) : (x != y) = false := by simp [h]

end Go.AG

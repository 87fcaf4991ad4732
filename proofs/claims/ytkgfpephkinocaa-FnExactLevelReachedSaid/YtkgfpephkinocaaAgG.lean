/-
  AG, part G: the operations that make or write memory. Conditions: none.
-/
import Derived.Test.YtkgfpephkinocaaAgF
set_option linter.unusedSimpArgs false
set_option linter.unusedVariables false
namespace Go.AG
open Go.RowKit

def V.one : V → Bool
  | .sc v => v.oneCell'
  | .sl _ _ => true
  | .ip _ _ => true
  | .fn _ _ => true
  | .ref _ _ _ => true
  | .ptr _ _ => true
  | .agg _ => false
  | .tup _ => false
  | .junk => false

def V.oneL : List V → Bool
  | [] => true
  | x :: xs => V.one x && V.oneL xs

theorem oneL_get {xs : List V} (h : V.oneL xs = true) (i : Nat) (hi : i < xs.length) : xs[i].one = true := by
  induction xs generalizing i with
  | nil => simp at hi
  | cons x xs ih =>
    simp only [V.oneL, Bool.and_eq_true] at h
    cases i with
    | zero => exact h.1
    | succ i => exact ih h.2 i (by simpa using hi)

theorem oneL_append (xs ys : List V) : V.oneL (xs ++ ys) = (V.oneL xs && V.oneL ys) := by
  induction xs with
  | nil => simp [V.oneL]
  | cons x xs ih => simp [V.oneL, ih, Bool.and_assoc]

/-- so many times the same cells -/
def reps : Nat → List V → List V
  | 0, _ => []
  | n + 1, zs => zs ++ reps n zs

theorem length_reps (n : Nat) (zs : List V) : (reps n zs).length = n * zs.length := by
  induction n with
  | zero => simp [reps]
  | succ n ih => simp [reps, ih, Nat.add_mul, Nat.add_comm]

theorem reps_get (n : Nat) (zs : List V) (i : Nat) (h : i < n * zs.length) : (reps n zs)[i]? = zs[i % zs.length]? := by
  induction n generalizing i with
  | zero => simp at h
  | succ n ih =>
    simp only [reps]
    rw [List.getElem?_append]
    split
    · rename_i hi; rw [Nat.mod_eq_of_lt hi]
    · rename_i hi
      have hle : zs.length ≤ i := by omega
      rw [ih (i - zs.length) (by rw [Nat.add_mul] at h; omega)]
      rw [← Nat.mod_eq_sub_mod hle]

theorem reps_one (n : Nat) (z : V) : reps n [z] = List.replicate n z := by
  induction n with
  | zero => rfl
  | succ n ih => simp [reps, ih, List.replicate_succ]

def vFill (place : Nat → Option (Nat × Nat)) (cells : List V) : List (Nat × V) → (List V → Prop) → Prop
  | [], K => K cells
  | q :: r, K => match place q.1 with
    | some (off, size) => grd ((vcells q.2).length = size ∧ off + size ≤ cells.length ∧ V.oneL (vcells q.2) = true) (vFill place (wr cells off (vcells q.2)) r K)
    | none => False

/-- the cells of a new or written object -/
def zerosOf (t : TI) : List V := t.zero.map V.sc

section
variable {P : Program} {F : Fr} {s : AState} {ρ : Nat → Pl} {a : Act} {w : World}

theorem one_cell {Y : Nat → Prop} {ob : Objs} {v : Value} {x : V} (h : RepC w Y ρ ob v x) (h1 : x.one = true) : v.oneCell' = true ∧ v.cells = #[v] := by
  cases h with
  | d h => cases h with
    | sc => cases v <;> first | (simp [V.one, Value.oneCell'] at h1; done) | exact ⟨rfl, rfl⟩
    | _ => exact ⟨rfl, rfl⟩
  | agg => simp [V.one] at h1
  | tup => simp [V.one] at h1
  | junk => simp [V.one] at h1
  | _ => exact ⟨rfl, rfl⟩

theorem cells_rep {Y : Nat → Prop} {ob : Objs} {v : Value} {x : V} (h : RepC w Y ρ ob v x) (h1 : V.oneL (vcells x) = true) :
    v.cells.size = (vcells x).length ∧ ∀ i (hi : i < (vcells x).length), RepC w Y ρ ob (v.cells.getD i undef) (vcells x)[i] ∧ (v.cells.getD i undef).oneCell' = true := by
  cases x with
  | agg xs =>
    cases h with
    | d h => cases h
    | @agg cs xs hs hr => exact ⟨hs, fun i hi => ⟨hr i hi, (one_cell (hr i hi) (oneL_get h1 i hi)).1⟩⟩
  | tup xs => simp [vcells, V.oneL, V.one] at h1
  | junk => simp [vcells, V.oneL, V.one] at h1
  | _ =>
    have h2 := one_cell h (oneL_get h1 0 (by simp [vcells]))
    rw [h2.2]
    refine ⟨rfl, fun i hi => ?_⟩
    have : i = 0 := by simp [vcells] at hi; omega
    subst this
    exact ⟨h, h2.1⟩

/-- a list of machine values that reads as a list of abstract cells -/
def RepL (w : World) (Y : Nat → Prop) (ρ : Nat → Pl) (ob : Objs) (cs : Array Value) (xs : List V) : Prop :=
  cs.size = xs.length ∧ ∀ i (hi : i < xs.length), RepC w Y ρ ob (cs.getD i undef) xs[i] ∧ (cs.getD i undef).oneCell' = true

theorem RepL.zeros {Y : Nat → Prop} {ob : Objs} (zs : List Value) (h : zs.all Value.oneCell' = true) : RepL w Y ρ ob zs.toArray (zs.map V.sc) := by
  refine ⟨by simp, fun i hi => ?_⟩
  have hi' : i < zs.length := by simpa using hi
  have : zs.toArray.getD i undef = zs[i] := by simp [Array.getD, hi']
  rw [this]
  exact ⟨by simpa using RepC.d (.sc _), List.all_eq_true.1 h _ (List.getElem_mem hi')⟩

theorem foldl_set (us : List Value) : ∀ (cs : Array Value) (off k : Nat) (i : Nat),
    ((us.zipIdx k).foldl (fun (cs : Array Value) (q : Value × Nat) => cs.setIfInBounds (off + q.2) q.1) cs).size = cs.size ∧
    (off + k + us.length ≤ cs.size → ((us.zipIdx k).foldl (fun (cs : Array Value) (q : Value × Nat) => cs.setIfInBounds (off + q.2) q.1) cs)[i]? = if off + k ≤ i ∧ i < off + k + us.length then us[i - (off + k)]? else cs[i]?) := by
  induction us with
  | nil => intro cs off k i; simp; intro h1 h2; omega
  | cons u us ih =>
    intro cs off k i
    simp only [List.zipIdx_cons, List.foldl_cons]
    obtain ⟨h1, h2⟩ := ih (cs.setIfInBounds (off + k) u) off (k + 1) i
    refine ⟨by rw [h1]; simp, fun hle => ?_⟩
    rw [h2 (by simp at hle ⊢; omega)]
    simp only [List.length_cons] at hle ⊢
    by_cases hi : i = off + k
    · subst hi
      rw [if_neg (by omega), if_pos (by omega)]
      simp [show off + k < cs.size by omega]
    · by_cases hin : off + (k + 1) ≤ i ∧ i < off + (k + 1) + us.length
      · rw [if_pos hin, if_pos (by omega)]
        rw [show i - (off + k) = (i - (off + (k + 1))) + 1 from by omega, List.getElem?_cons_succ]
      · rw [if_neg hin, if_neg (by omega), Array.getElem?_setIfInBounds_ne (by omega)]

theorem RepL.wr {Y : Nat → Prop} {ob : Objs} {cs : Array Value} {xs : List V} (h : RepL w Y ρ ob cs xs) {v : Value} {x : V} (hx : RepC w Y ρ ob v x) (h1 : V.oneL (vcells x) = true) {off : Nat}
    (hfit : off + (vcells x).length ≤ xs.length) : RepL w Y ρ ob (v.cells.zipIdx.foldl (fun cs (c, j) => cs.setIfInBounds (off + j) c) cs) (AG.wr xs off (vcells x)) := by
  obtain ⟨hs, hr⟩ := h
  obtain ⟨hs2, hr2⟩ := cells_rep hx h1
  have hfold : v.cells.zipIdx.foldl (fun cs (c, j) => cs.setIfInBounds (off + j) c) cs = (v.cells.toList.zipIdx 0).foldl (fun (cs : Array Value) (q : Value × Nat) => cs.setIfInBounds (off + q.2) q.1) cs := by
    rw [← Array.foldl_toList]
    simp
  rw [hfold]
  have hl : v.cells.toList.length = (vcells x).length := by simpa using hs2
  refine ⟨by rw [(foldl_set v.cells.toList cs off 0 0).1, length_wr _ _ _ hfit]; exact hs, fun i hi => ?_⟩
  rw [length_wr _ _ _ hfit] at hi
  have hg := (foldl_set v.cells.toList cs off 0 i).2 (by omega)
  have hw := get_wr xs off (vcells x) hfit i
  have hi2 : i < (AG.wr xs off (vcells x)).length := by rw [length_wr _ _ _ hfit]; exact hi
  rw [List.getElem?_eq_getElem hi2] at hw
  have fin : ∀ (c : Value) (y : V), ((v.cells.toList.zipIdx 0).foldl (fun (cs : Array Value) (q : Value × Nat) => cs.setIfInBounds (off + q.2) q.1) cs)[i]? = some c → some (AG.wr xs off (vcells x))[i] = some y → RepC w Y ρ ob c y ∧ c.oneCell' = true →
      RepC w Y ρ ob (((v.cells.toList.zipIdx 0).foldl (fun (cs : Array Value) (q : Value × Nat) => cs.setIfInBounds (off + q.2) q.1) cs).getD i undef) (AG.wr xs off (vcells x))[i] ∧ ((((v.cells.toList.zipIdx 0).foldl (fun (cs : Array Value) (q : Value × Nat) => cs.setIfInBounds (off + q.2) q.1) cs)).getD i undef).oneCell' = true := by
    intro c y hc hy hcy
    rw [Array.getD_eq_getD_getElem?, hc]
    cases hy
    exact hcy
  by_cases hin : off ≤ i ∧ i < off + (vcells x).length
  · rw [if_pos (by omega)] at hg
    rw [if_neg (by omega), if_pos (by omega)] at hw
    have hj : i - off < (vcells x).length := by omega
    have hj2 : i - off < v.cells.toList.length := by omega
    rw [show i - (off + 0) = i - off from by omega, List.getElem?_eq_getElem hj2] at hg
    rw [List.getElem?_eq_getElem hj] at hw
    have h3 := hr2 (i - off) hj
    have h4 : v.cells.getD (i - off) undef = v.cells.toList[i - off] := by
      have : i - off < v.cells.size := by omega
      simp [Array.getD, this]
    rw [h4] at h3
    exact fin _ _ hg hw h3
  · rw [if_neg (by omega)] at hg
    have hw2 : some (AG.wr xs off (vcells x))[i] = xs[i]? := by
      rw [hw]; split
      · rfl
      · rw [if_neg (by omega)]
    rw [List.getElem?_eq_getElem hi] at hw2
    have hi3 : i < cs.size := by omega
    have h3 := hr i hi
    have h4 : cs.getD i undef = cs[i] := by simp [Array.getD, hi3]
    rw [h4] at h3
    rw [Array.getElem?_eq_getElem hi3] at hg
    exact fin _ _ hg hw2 h3

theorem sound_fill (place : Nat → Option (Nat × Nat)) {Y : Nat → Prop} {ob : Objs} : ∀ (parts : List (Nat × V)) (vs : List (Nat × Value)) (cs : Array Value) (xs : List V) (K : List V → Prop),
    RepL w Y ρ ob cs xs → vs.length = parts.length → (∀ i (h : i < parts.length) (h' : i < vs.length), vs[i].1 = parts[i].1 ∧ RepC w Y ρ ob vs[i].2 parts[i].2) → vFill place xs parts K →
    ∃ ys cs', K ys ∧ RepL w Y ρ ob cs' ys ∧ Instr.fill place cs vs = some cs'
  | [], [], cs, xs, K, h, _, _, hv => ⟨xs, cs, hv, h, rfl⟩
  | q :: parts, p :: vs, cs, xs, K, h, hl, hr, hv => by
    obtain ⟨e, hx⟩ := hr 0 (by simp) (by simp)
    simp only [List.getElem_cons_zero] at e hx
    simp only [vFill] at hv
    split at hv
    case h_2 => exact hv.elim
    rename_i off size hp
    obtain ⟨⟨h1, h2, h3⟩, hv⟩ := hv
    obtain ⟨hs2, hr2⟩ := cells_rep hx h3
    have hw := h.wr hx h3 (off := off) (by omega)
    obtain ⟨ys, cs', hk, hy, hf⟩ := sound_fill place parts vs _ _ K hw (by simpa using hl) (fun i h h' => by
      have := hr (i + 1) (by simpa using h) (by simpa using h')
      simpa using this) hv
    refine ⟨ys, cs', hk, hy, ?_⟩
    obtain ⟨i, v⟩ := p
    simp only at e hx hs2
    simp only [Instr.fill, e, hp]
    have hsz := h.1
    rw [if_neg (by simp only [Bool.or_eq_true, bne_iff_ne, ne_eq, decide_eq_true_eq]; omega)]
    exact hf
  | [], _ :: _, _, _, _, _, hl, _, _ => by simp at hl
  | _ :: _, [], _, _, _, _, hl, _, _ => by simp at hl

end
end Go.AG

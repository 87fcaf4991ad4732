/- lands: the cells that are reached from a cell below a level: plain law -/
import Derived.Test.YthgjcanhemohfaaLand4
set_option linter.unusedVariables false
set_option linter.unusedSimpArgs false
namespace Go.Proofs.Ythgjcanhemohfaa
open Go.AG

/-- marks and the list of what is marked -/
abbrev Bf := List Bool × List Int
/-- a neighbour is seen -/
def bfS (l : Ld) (lv : Int) (a : Bf) (x : Int) : Bf := if gb a.1 x.toNat = false ∧ gi l.hs x.toNat < lv then (a.1.set x.toNat true, a.2 ++ [x]) else a
def bfR (l : Ld) (lv : Int) (a : Bf) (xs : List Int) : Bf := xs.foldl (bfS l lv) a
def bfK (l : Ld) (lv : Int) (s : List Bool) (c : Int) : Nat → Bf
  | 0 => (s.set c.toNat true, [c])
  | i + 1 => if i < (bfK l lv s c i).2.length then bfR l lv (bfK l lv s c i) (near l (gi (bfK l lv s c i).2 i)) else bfK l lv s c i
theorem bfR_snoc (l : Ld) (lv : Int) (a : Bf) (xs : List Int) (k : Nat) (h : k < xs.length) : bfR l lv a (xs.take (k + 1)) = bfS l lv (bfR l lv a (xs.take k)) (gi xs k) := by
  rw [take_succ_gi xs k h, bfR, List.foldl_append]; rfl
theorem bfR_append (l : Ld) (lv : Int) (a : Bf) (xs ys : List Int) : bfR l lv a (xs ++ ys) = bfR l lv (bfR l lv a xs) ys := List.foldl_append ..

theorem ngh_in {l : Ld} {c : Int} (g : Cl l c) (k : Nat) : ∀ x ∈ ngh l c k, inC l x := by
  have h1 := g.frm
  have h2 := g.fcm
  have h3 := g.feq
  have h4 := g.fn
  have h5 := g.fc
  have h6 := g.fk
  have h7 := g.fr
  intro x hx
  unfold ngh at hx
  unfold inC
  split at hx
  · split at hx
    · simp only [List.mem_singleton] at hx
      rename_i h
      have : 1 * l.cols ≤ c / l.cols * l.cols := Int.mul_le_mul_of_nonneg_right (by omega) (by omega)
      omega
    · simp at hx
  · split at hx
    · simp only [List.mem_singleton] at hx
      rename_i h
      have : 0 ≤ c / l.cols * l.cols := Int.mul_nonneg h1.1 (by omega)
      omega
    · simp at hx
  · split at hx
    · simp only [List.mem_singleton] at hx
      rename_i h
      have e : (c / l.cols + 1) * l.cols ≤ l.rows * l.cols := Int.mul_le_mul_of_nonneg_right (by omega) (by omega)
      rw [Int.add_mul, Int.one_mul] at e
      omega
    · simp at hx
  · split at hx
    · simp only [List.mem_singleton] at hx
      rename_i h
      have e : (c / l.cols + 1 + 1) * l.cols ≤ l.rows * l.cols := Int.mul_le_mul_of_nonneg_right (by omega) (by omega)
      rw [Int.add_mul, Int.add_mul, Int.one_mul] at e
      omega
    · simp at hx
  · simp at hx
theorem near_in (l : Ld) (hok : okL l = true) (c : Int) (hc : inC l c) : ∀ x ∈ near l c, inC l x := by
  have g := Cl.of2 hok hc
  intro x hx
  unfold near at hx
  simp only [nearK, List.nil_append, List.mem_append] at hx
  rcases hx with ((hx | hx) | hx) | hx
  · exact ngh_in g 0 x hx
  · exact ngh_in g 1 x hx
  · exact ngh_in g 2 x hx
  · exact ngh_in g 3 x hx
/-- how many marks are not set -/
def cF (s : List Bool) : Nat := (s.filter (! ·)).length
theorem cF_le (s : List Bool) : cF s ≤ s.length := List.length_filter_le _ _
theorem cF_set (s : List Bool) (i : Nat) (h : i < s.length) (hf : gb s i = false) : cF (s.set i true) + 1 = cF s := by
  induction s generalizing i with
  | nil => simp at h
  | cons b s ih => cases i with
    | zero =>
      simp only [gb, List.getD_cons_zero] at hf
      subst hf
      simp [cF]
    | succ i =>
      have := ih i (by simpa using h) (by simpa [gb] using hf)
      simp only [cF, List.set_cons_succ, List.filter_cons] at this ⊢
      cases b <;> simp_all <;> omega
structure BfOk (l : Ld) (m : Nat) (a : Bf) : Prop where
  len : a.1.length = l.hs.length
  cnt : a.2.length + cF a.1 = m
  ins : ∀ x ∈ a.2, inC l x
theorem bfS_ok {l : Ld} {lv : Int} {m : Nat} {a : Bf} (h : BfOk l m a) (x : Int) (hx : inC l x) : BfOk l m (bfS l lv a x) := by
  unfold bfS
  split
  · rename_i g
    have hl : x.toNat < a.1.length := by rw [h.len]; unfold inC at hx; omega
    have := cF_set a.1 x.toNat hl g.1
    refine ⟨by simp [h.len], by have := h.cnt; simp; omega, fun y hy => ?_⟩
    rcases List.mem_append.1 hy with hy | hy
    · exact h.ins y hy
    · simp at hy; subst hy; exact hx
  · exact h
theorem bfR_ok {l : Ld} {lv : Int} {m : Nat} (xs : List Int) : ∀ {a : Bf}, BfOk l m a → (∀ x ∈ xs, inC l x) → BfOk l m (bfR l lv a xs) := by
  induction xs with
  | nil => intro a h _; exact h
  | cons x xs ih => intro a h hx; exact ih (bfS_ok h x (hx x (by simp))) (fun y hy => hx y (by simp [hy]))
theorem bfK_ok {l : Ld} {lv : Int} {s : List Bool} {c : Int} (hok : okL l = true) (hc : inC l c) (hs : s.length = l.hs.length) : ∀ i, BfOk l (1 + cF (s.set c.toNat true)) (bfK l lv s c i)
  | 0 => ⟨by simp [bfK, hs], by simp [bfK], fun x hx => by simp [bfK] at hx; subst hx; exact hc⟩
  | i + 1 => by
    have ih := bfK_ok (lv := lv) hok hc hs i
    unfold bfK
    split
    · rename_i g
      have : gi (bfK l lv s c i).2 i ∈ (bfK l lv s c i).2 := gi_mem _ _ g
      exact bfR_ok _ ih (near_in l hok _ (ih.ins _ this))
    · exact ih
theorem bfK_len {l : Ld} {lv : Int} {s : List Bool} {c : Int} (hok : okL l = true) (hc : inC l c) (hs : s.length = l.hs.length) (i : Nat) : (bfK l lv s c i).2.length ≤ l.hs.length + 1 ∧ (bfK l lv s c i).1.length = l.hs.length := by
  have h := bfK_ok (lv := lv) hok hc hs i
  have h1 := h.cnt
  have h2 := cF_le (s.set c.toNat true)
  simp only [List.length_set] at h2
  exact ⟨by omega, h.len⟩
/-- behind the last one nothing changes -/
theorem bfK_end {l : Ld} {lv : Int} {s : List Bool} {c : Int} {i : Nat} (h : (bfK l lv s c i).2.length ≤ i) : ∀ j, i ≤ j → bfK l lv s c j = bfK l lv s c i
  | 0, hj => by obtain rfl : i = 0 := by omega
                rfl
  | j + 1, hj => by
    by_cases e : i = j + 1
    · subst e; rfl
    · have ih := bfK_end h j (by omega)
      show (if j < (bfK l lv s c j).2.length then _ else bfK l lv s c j) = _
      rw [ih, if_neg (by omega)]
/-- what is marked at the end, and the list -/
def bfE (l : Ld) (lv : Int) (s : List Bool) (c : Int) : Bf := bfK l lv s c (l.hs.length + 1)
theorem bfE_eq {l : Ld} {lv : Int} {s : List Bool} {c : Int} {i : Nat} (hok : okL l = true) (hc : inC l c) (hs : s.length = l.hs.length) (h : (bfK l lv s c i).2.length ≤ i) : bfE l lv s c = bfK l lv s c i := by
  have hl := bfK_len (lv := lv) hok hc hs (l.hs.length + 1)
  by_cases e : i ≤ l.hs.length + 1
  · exact bfK_end h _ e
  · exact (bfK_end (i := l.hs.length + 1) (by omega) i (by omega)).symm
end Go.Proofs.Ythgjcanhemohfaa

/- lands, lists of lists: the laws' helpers -/
import Derived.Test.YthgjcanhemohfaaLand
import Derived.Test.YthgjcanhemohfaaAgZ
set_option linter.unusedVariables false
set_option linter.unusedSimpArgs false
namespace Go.Proofs.Ythgjcanhemohfaa
open Go.AG

def szN (n : Nat) (left : Int) : Int := if left - n < 0 then -1 else left - n
theorem szN_neg {n : Nat} {left : Int} (h : szN n left < 0) : left - n < 0 := by
  unfold szN at h
  split at h <;> omega
theorem szN_pos {n : Nat} {left : Int} (h : ¬ szN n left < 0) : szN n left = left - n ∧ 0 ≤ left - n := by
  unfold szN at h ⊢
  split at h
  · omega
  · rename_i g; rw [if_neg g]; omega
def lR (l : Ld) : V := .agg [I l.rows, I l.cols, .ref 0 0 l.hs.length]
theorem same_land (l : Ld) : decide (l.rows = l.rows ∧ l.cols = l.cols ∧ l.hs = l.hs) = true := by simp

/-! ### lists of lists -/
/-- what is left after the first k rows -/
def lft (ways : List (List Int)) (left : Int) : Nat → Int
  | 0 => left - ways.length
  | k + 1 => lft ways left k - (gr ways k).length
theorem lft_le (ways : List (List Int)) (left : Int) : ∀ k, lft ways left k ≤ left
  | 0 => by simp only [lft]; omega
  | k + 1 => by have := lft_le ways left k; simp only [lft]; omega
theorem lft_mono (ways : List (List Int)) (left : Int) (j : Nat) : ∀ k, j ≤ k → lft ways left k ≤ lft ways left j
  | 0, h => by obtain rfl : j = 0 := by omega
               exact Int.le_refl _
  | k + 1, h => by
    by_cases e : j = k + 1
    · subst e; exact Int.le_refl _
    · have := lft_mono ways left j k (by omega); simp only [lft]; omega
def szSS (ways : List (List Int)) (left : Int) : Int := if lft ways left ways.length < 0 then -1 else lft ways left ways.length
theorem szSS_pos {ways : List (List Int)} {left : Int} (h : ¬ szSS ways left < 0) : 0 ≤ lft ways left ways.length ∧ szSS ways left = lft ways left ways.length := by
  unfold szSS at h ⊢
  split at h
  · omega
  · rename_i g; rw [if_neg g]; omega
theorem lft_row {ways : List (List Int)} {left : Int} (h : 0 ≤ lft ways left ways.length) (j : Nat) (hj : j < ways.length) : ((gr ways j).length : Int) ≤ left := by
  have h1 := lft_mono ways left (j + 1) ways.length (by omega)
  have h2 := lft_le ways left j
  simp only [lft] at h1
  omega
theorem lft_n {ways : List (List Int)} {left : Int} (h : 0 ≤ lft ways left ways.length) : (ways.length : Int) ≤ left := by
  have h1 := lft_mono ways left 0 ways.length (by omega)
  simp only [lft] at h1
  omega
/-- nil slices -/
def nls (n : Nat) : List V := List.replicate n (V.sc (.slice none 0 0))
@[go_sem] theorem length_nls (n : Nat) : (nls n).length = n := by simp [nls]
@[go_sem] theorem imm_nls (n : Nat) : V.immL (nls n) = true := by
  induction n with
  | zero => rfl
  | succ n ih => exact ih
@[go_sem] theorem noref_nls (n : Nat) : V.norefL (nls n) = true := by
  induction n with
  | zero => rfl
  | succ n ih => exact ih
@[go_sem] theorem kill_nls (p : Nat → Bool) (n : Nat) : V.killL p (nls n) = nls n := killL_noref p _ (noref_nls n)
@[go_sem] theorem frz_nls (f : Nat → Option Ob) (n : Nat) : V.frzL f (nls n) = nls n := frzL_noref f _ (noref_nls n)
@[go_sem] theorem rep_nls (n : Nat) : List.replicate n (V.sc (.slice none 0 0)) = nls n := rfl
theorem gr_lt (xs : List (List Int)) (k : Nat) (h : k < xs.length) : gr xs k = xs[k] := by simp [gr, h]
theorem gr_take_succ (xs : List (List Int)) (k : Nat) (h : k < xs.length) : xs.take (k + 1) = xs.take k ++ [gr xs k] := by rw [List.take_succ_eq_append_getElem h, gr_lt _ _ h]
def filN (xs : List (List Int)) (k : Nat) : List V := rws (xs.take k) ++ nls (xs.length - k)
theorem filN_len (xs : List (List Int)) (k : Nat) (h : k ≤ xs.length) : (filN xs k).length = xs.length := by simp [filN, length_rws, length_nls]; omega
theorem filN_zero (xs : List (List Int)) : filN xs 0 = nls xs.length := rfl
theorem filN_all (xs : List (List Int)) : filN xs xs.length = rws xs := by simp [filN, nls]
theorem norefL_app (xs ys : List V) : V.norefL (xs ++ ys) = (V.norefL xs && V.norefL ys) := by
  induction xs with
  | nil => rfl
  | cons x xs ih => simp only [List.cons_append, V.norefL, ih, Bool.and_assoc]
@[go_sem] theorem filN_imm (xs : List (List Int)) (k : Nat) : V.immL (filN xs k) = true := by
  unfold filN
  (repeat (first | simp (maxSteps := 2000000) (disch := omega) only [go_sem, ↓reduceIte, Nat.reduceEqDiff, Nat.reduceAdd, Nat.reduceMul, Nat.reduceSub, Int.reduceToNat, Int.reduceAdd, Int.reduceSub, Int.reduceMul, Int.reduceNeg] | with_reducible refine vIf_t ?_ | with_reducible refine vIf_f ?_))
theorem filN_noref (xs : List (List Int)) (k : Nat) : V.norefL (filN xs k) = true := by
  unfold filN
  rw [norefL_app, noref_rws, noref_nls]; rfl
@[go_sem] theorem filN_kill (p : Nat → Bool) (xs : List (List Int)) (k : Nat) : V.killL p (filN xs k) = filN xs k := killL_noref p _ (filN_noref xs k)
@[go_sem] theorem filN_frz (f : Nat → Option Ob) (xs : List (List Int)) (k : Nat) : V.frzL f (filN xs k) = filN xs k := frzL_noref f _ (filN_noref xs k)
theorem filN_succ (xs : List (List Int)) (k : Nat) (h : k < xs.length) : wr (filN xs k) k [.sl (gr xs k).length (ints (gr xs k))] = filN xs (k + 1) := by
  have e : xs.length - k = (xs.length - (k + 1)) + 1 := by omega
  have hl : (rws (xs.take k)).length = k := by simp [length_rws]; omega
  unfold wr filN
  rw [List.take_append_of_le_length (by omega), List.take_of_length_le (by omega), List.drop_append]
  rw [gr_take_succ _ _ h, ← rws_snoc, List.drop_of_length_le (by simp [hl]), hl, e]
  simp [nls, List.replicate_succ]
theorem wr_frz (f : Nat → Option Ob) (xs ys : List V) (k : Nat) : V.frzL f (wr xs k ys) = wr (V.frzL f xs) k (V.frzL f ys) := by simp [frzL_eq, wr, List.map_take, List.map_drop]
end Go.Proofs.Ythgjcanhemohfaa

/- the subsets: sets by masks; how many sets need a party -/
import Derived.Test.YtpjjjonplikilaaZ2
set_option linter.unusedVariables false
set_option linter.unusedSimpArgs false
namespace Go.Proofs.Ytpjjjonplikilaa
open Go.AG

theorem maskS_succ (k m : Nat) : maskS (k + 1) m = if (m >>> k) % 2 == 1 then maskS k m ++ [k] else maskS k m := by
  unfold maskS
  rw [List.range_succ, List.filter_append]
  by_cases h : (m >>> k) % 2 == 1
  · rw [if_pos h, List.filter_cons, if_pos h]; rfl
  · rw [if_neg h, List.filter_cons, if_neg h, List.filter_nil, List.append_nil]
theorem maskS_zero (m : Nat) : maskS 0 m = [] := rfl
theorem mem_maskS {n m i : Nat} : i ∈ maskS n m ↔ i < n ∧ (m >>> i) % 2 = 1 := by simp [maskS]
theorem maskS_len (n m : Nat) : (maskS n m).length ≤ n := by
  unfold maskS
  exact Nat.le_trans (List.length_filter_le _ _) (by simp)
theorem nI_len (q : List Nat) : (nI q).length = q.length := by simp [nI]
theorem nI_snoc (q : List Nat) (k : Nat) : nI (q ++ [k]) = nI q ++ [(k : Int)] := by simp [nI]
theorem nI_get (q : List Nat) (i : Nat) (h : i < q.length) : gi (nI q) i = (q[i] : Int) := by rw [gi_lt _ _ (by rw [nI_len]; exact h)]; simp [nI]
theorem bit_all : ((List.range 256).all fun m => (List.range 8).all fun i => (Go.bits .and .i64 ((m : Int).fdiv (2 ^ i)) 1 == 1) == ((m >>> i) % 2 == 1)) = true := by kernel_rfl
theorem bit_eq (m i : Nat) (hm : m < 256) (hi : i < 8) : (Go.bits .and .i64 ((m : Int).fdiv (2 ^ i)) 1 == 1) = ((m >>> i) % 2 == 1) := by
  have h := List.all_eq_true.1 (List.all_eq_true.1 bit_all m (List.mem_range.2 hm)) i (List.mem_range.2 hi)
  exact eq_of_beq h

theorem set_ok (xs : List Int) (m : Nat) (hx : xs.length ≤ 8) (hm : m < 256) : ACalls Try.prog 12 [iS xs, I m] [] (fun r o => r = .tup [.ref 0 0 (maskS xs.length m).length, I (mand xs (nI (maskS xs.length m)))] ∧ o = [oI (nI (maskS xs.length m))]) := by
  refine ACalls.of_vc Try.func12 rfl (by decide) 34 rfl [.tmp 4, .tmp 5] rfl (by simp) ?_
  unfold iS
  (repeat (first | simp (maxSteps := 2000000) (disch := omega) only [go_sem, ↓reduceIte, Nat.reduceEqDiff, Nat.reduceAdd, Nat.reduceMul, Nat.reduceSub, Int.reduceToNat, Int.reduceAdd, Int.reduceSub, Int.reduceMul, Int.reduceNeg] | with_reducible refine vIf_t ?_ | with_reducible refine vIf_f ?_))
  refine vcLoop_inv (fun k : Nat => k ≤ xs.length) (fun k => ⟨34, 0, [(8, I k), (0, .sl xs.length (ints xs)), (7, I (mand xs (nI (maskS k m)))), (6, .ref 0 0 (maskS k m).length), (1, I m)], [oI (nI (maskS k m))]⟩) (fun k => xs.length - k) 0 (by omega) (by (repeat (first | simp (maxSteps := 2000000) (disch := omega) only [go_sem, ↓reduceIte, Nat.reduceEqDiff, Nat.reduceAdd, Nat.reduceMul, Nat.reduceSub, Int.reduceToNat, Int.reduceAdd, Int.reduceSub, Int.reduceMul, Int.reduceNeg, maskS_zero] | with_reducible refine vIf_t ?_ | with_reducible refine vIf_f ?_)); simp [nI, oI, ints, mand_nil]) ?_
  intro k hk
  have hl := maskS_len k m
  have hl2 := nI_len (maskS k m)
  unfold oI
  (repeat (first | simp (maxSteps := 2000000) (disch := omega) only [go_sem, ↓reduceIte, Nat.reduceEqDiff, Nat.reduceAdd, Nat.reduceMul, Nat.reduceSub, Int.reduceToNat, Int.reduceAdd, Int.reduceSub, Int.reduceMul, Int.reduceNeg] | with_reducible refine vIf_t ?_ | with_reducible refine vIf_f ?_))
  refine vIf_dec (fun h => ?_) (fun h => ?_)
  · have hb := bit_eq m k hm (by omega)
    (repeat (first | simp (maxSteps := 2000000) (disch := omega) only [go_sem, ↓reduceIte, Nat.reduceEqDiff, Nat.reduceAdd, Nat.reduceMul, Nat.reduceSub, Int.reduceToNat, Int.reduceAdd, Int.reduceSub, Int.reduceMul, Int.reduceNeg] | with_reducible refine vIf_t ?_ | with_reducible refine vIf_f ?_))
    refine vIf_bool (fun h3 => ?_) (fun h3 => ?_)
    · rw [hb] at h3
      have e : maskS (k + 1) m = maskS k m ++ [k] := by rw [maskS_succ, if_pos h3]
      (repeat (first | simp (maxSteps := 2000000) (disch := omega) only [go_sem, ↓reduceIte, Nat.reduceEqDiff, Nat.reduceAdd, Nat.reduceMul, Nat.reduceSub, Int.reduceToNat, Int.reduceAdd, Int.reduceSub, Int.reduceMul, Int.reduceNeg] | with_reducible refine vIf_t ?_ | with_reducible refine vIf_f ?_))
      refine again (k + 1) (by omega) (by omega) ?_
      (repeat (first | simp (maxSteps := 2000000) (disch := omega) only [go_sem, ↓reduceIte, Nat.reduceEqDiff, Nat.reduceAdd, Nat.reduceMul, Nat.reduceSub, Int.reduceToNat, Int.reduceAdd, Int.reduceSub, Int.reduceMul, Int.reduceNeg, e, nI_snoc, mand_snoc] | with_reducible refine vIf_t ?_ | with_reducible refine vIf_f ?_))
    · rw [hb] at h3
      have e : maskS (k + 1) m = maskS k m := by rw [maskS_succ, if_neg (by simp [h3])]
      (repeat (first | simp (maxSteps := 2000000) (disch := omega) only [go_sem, ↓reduceIte, Nat.reduceEqDiff, Nat.reduceAdd, Nat.reduceMul, Nat.reduceSub, Int.reduceToNat, Int.reduceAdd, Int.reduceSub, Int.reduceMul, Int.reduceNeg] | with_reducible refine vIf_t ?_ | with_reducible refine vIf_f ?_))
      refine again (k + 1) (by omega) (by omega) ?_
      (repeat (first | simp (maxSteps := 2000000) (disch := omega) only [go_sem, ↓reduceIte, Nat.reduceEqDiff, Nat.reduceAdd, Nat.reduceMul, Nat.reduceSub, Int.reduceToNat, Int.reduceAdd, Int.reduceSub, Int.reduceMul, Int.reduceNeg, e] | with_reducible refine vIf_t ?_ | with_reducible refine vIf_f ?_))
  · (repeat (first | simp (maxSteps := 2000000) (disch := omega) only [go_sem, ↓reduceIte, Nat.reduceEqDiff, Nat.reduceAdd, Nat.reduceMul, Nat.reduceSub, Int.reduceToNat, Int.reduceAdd, Int.reduceSub, Int.reduceMul, Int.reduceNeg] | with_reducible refine vIf_t ?_ | with_reducible refine vIf_f ?_))
    have e : k = xs.length := by omega
    subst e
    (refine retK_of ?_; (repeat (first | simp (maxSteps := 2000000) (disch := omega) only [go_sem, ↓reduceIte, Nat.reduceEqDiff, Nat.reduceAdd, Nat.reduceMul, Nat.reduceSub, Int.reduceToNat, Int.reduceAdd, Int.reduceSub, Int.reduceMul, Int.reduceNeg] | with_reducible refine vIf_t ?_ | with_reducible refine vIf_f ?_)))

/-- a party's sets are counted -/
def inc (acc : List Int) (i : Nat) : List Int := acc.set i (IntKind.wrap .i64 (gi acc i + 1))
theorem inc_len (acc : List Int) (i : Nat) : (inc acc i).length = acc.length := by simp [inc]
theorem inc_comm (acc : List Int) (i j : Nat) : inc (inc acc i) j = inc (inc acc j) i := by
  by_cases h : i = j
  · subst h; rfl
  · unfold inc
    rw [gi_set_ne _ _ _ _ h, gi_set_ne _ _ _ _ (fun e => h e.symm), List.set_comm _ _ h]
def need (xs : List Int) (s : List Nat) (i : Nat) : Bool := decide (wsum xs < IntKind.wrap .i64 (2 * mand xs (nI s))) && decide (IntKind.wrap .i64 (2 * IntKind.wrap .i64 (mand xs (nI s) - gi xs i)) ≤ wsum xs)
def sw1 (xs : List Int) (s : List Nat) (acc : List Int) (i : Nat) : List Int := if need xs s i = true then inc acc i else acc
def swp (xs : List Int) (s : List Nat) (acc : List Int) (t : List Nat) : List Int := t.foldl (sw1 xs s) acc
def sw (xs : List Int) (acc : List Int) (s : List Nat) : List Int := swp xs s acc s
theorem sw1_len (xs : List Int) (s : List Nat) (acc : List Int) (i : Nat) : (sw1 xs s acc i).length = acc.length := by unfold sw1; split <;> simp [inc_len]
theorem swp_len (xs : List Int) (s : List Nat) (t : List Nat) : ∀ acc : List Int, (swp xs s acc t).length = acc.length := by
  induction t with
  | nil => intro acc; rfl
  | cons i t ih => intro acc; exact (ih _).trans (sw1_len _ _ _ _)
theorem sw_len (xs : List Int) (L : List (List Nat)) : ∀ acc : List Int, (L.foldl (sw xs) acc).length = acc.length := by
  induction L with
  | nil => intro acc; rfl
  | cons i t ih => intro acc; exact (ih _).trans (swp_len _ _ _ _)
theorem sw1_comm (xs : List Int) (s s' : List Nat) (acc : List Int) (i j : Nat) : sw1 xs s' (sw1 xs s acc i) j = sw1 xs s (sw1 xs s' acc j) i := by
  unfold sw1
  split <;> split <;> first | rfl | exact inc_comm _ _ _
theorem swp_comm1 (xs : List Int) (s s' : List Nat) (j : Nat) (t : List Nat) : ∀ acc, sw1 xs s' (swp xs s acc t) j = swp xs s (sw1 xs s' acc j) t := by
  induction t with
  | nil => intro acc; rfl
  | cons i t ih => intro acc; show sw1 xs s' (swp xs s (sw1 xs s acc i) t) j = swp xs s (sw1 xs s (sw1 xs s' acc j) i) t; rw [ih, sw1_comm]
theorem swp_comm (xs : List Int) (s s' : List Nat) (t t' : List Nat) : ∀ acc, swp xs s' (swp xs s acc t) t' = swp xs s (swp xs s' acc t') t := by
  induction t' with
  | nil => intro acc; rfl
  | cons j t' ih => intro acc; show swp xs s' (sw1 xs s' (swp xs s acc t) j) t' = swp xs s (swp xs s' (sw1 xs s' acc j) t') t; rw [swp_comm1, ih]
theorem sw_comm (xs : List Int) (acc : List Int) (s s' : List Nat) : sw xs (sw xs acc s) s' = sw xs (sw xs acc s') s := swp_comm xs s s' s s' acc
theorem sw_perm (xs : List Int) {L L' : List (List Nat)} (h : List.Perm L L') : ∀ (acc : List Int), L.foldl (sw xs) acc = L'.foldl (sw xs) acc := by
  induction h with
  | nil => intro acc; rfl
  | cons x _ ih => intro acc; exact ih _
  | swap x y l => intro acc; simp only [List.foldl_cons]; rw [sw_comm]
  | trans _ _ ih1 ih2 => intro acc; rw [ih1, ih2]
theorem sw_nil (xs : List Int) (acc : List Int) : sw xs acc [] = acc := rfl
theorem swp_no (xs : List Int) (s t : List Nat) (acc : List Int) (h : ¬ wsum xs < IntKind.wrap .i64 (2 * mand xs (nI s))) : swp xs s acc t = acc := by
  induction t with
  | nil => rfl
  | cons i t ih => show swp xs s (sw1 xs s acc i) t = acc; rw [show sw1 xs s acc i = acc from by simp [sw1, need, h]]; exact ih
/-- how many sets need each party -/
def swings (xs : List Int) : List Int := ((List.range (2 ^ xs.length)).map (maskS xs.length)).foldl (sw xs) (List.replicate xs.length 0)
/-- the sets behind the first one, which is empty -/
theorem swings_succ (xs : List Int) (k : Nat) : (((List.range (k + 1)).map (maskS xs.length)).foldl (sw xs) (List.replicate xs.length 0)) = sw xs (((List.range k).map (maskS xs.length)).foldl (sw xs) (List.replicate xs.length 0)) (maskS xs.length k) := by
  rw [List.range_succ, List.map_append, List.foldl_append]; rfl
end Go.Proofs.Ytpjjjonplikilaa

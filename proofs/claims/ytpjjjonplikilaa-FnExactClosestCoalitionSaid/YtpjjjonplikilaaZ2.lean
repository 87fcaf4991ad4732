/- the subsets: the walk (begun) -/
import Derived.Test.YtpjjjonplikilaaZ1
import Derived.Test.YtpjjjonplikilaaX6
import Derived.Test.YtpjjjonplikilaaAgZ
set_option linter.unusedVariables false
set_option linter.unusedSimpArgs false
namespace Go.Proofs.Ytpjjjonplikilaa
open Go.AG

def nI (xs : List Nat) : List Int := xs.map fun (i : Nat) => (i : Int)
def sI (xs : List (List Nat)) : List (List Int) := xs.map nI
theorem last_ok (xs : List Int) (hl : xs.length ≤ 10000000) (h : 1 ≤ xs.length) : ACalls Try.prog 24 [iS xs] [] (fun r o => r = I (gi xs (xs.length - 1)) ∧ o = []) := by
  refine ACalls.of_vc Try.func24 rfl (by decide) 9 rfl [.tmp 2] rfl (by simp) ?_
  (repeat (first | simp (maxSteps := 2000000) (disch := omega) only [go_sem, ↓reduceIte, Nat.reduceEqDiff, Nat.reduceAdd, Nat.reduceMul, Nat.reduceSub, Int.reduceToNat, Int.reduceAdd, Int.reduceSub, Int.reduceMul, Int.reduceNeg] | with_reducible refine vIf_t ?_ | with_reducible refine vIf_f ?_))
  (refine retK_of ?_; (repeat (first | simp (maxSteps := 2000000) (disch := omega) only [go_sem, ↓reduceIte, Nat.reduceEqDiff, Nat.reduceAdd, Nat.reduceMul, Nat.reduceSub, Int.reduceToNat, Int.reduceAdd, Int.reduceSub, Int.reduceMul, Int.reduceNeg] | with_reducible refine vIf_t ?_ | with_reducible refine vIf_f ?_)))
  rw [show ((xs.length : Int) - 1).toNat = xs.length - 1 from by omega]
theorem sfrom_last (q : List Nat) (h : 1 ≤ q.length) : ((sfrom q : Nat) : Int) = gi (nI q) ((nI q).length - 1) + 1 := by
  have hl : (nI q).length = q.length := by simp [nI]
  rw [gi_lt _ _ (by omega)]
  have hne : q ≠ [] := by intro e; rw [e] at h; simp at h
  simp only [sfrom, List.getLast?_eq_getElem?, nI, List.length_map, List.getElem_map]
  rw [List.getElem?_eq_getElem (by omega)]
  rfl
def grow (n : Nat) (q : List Nat) (L : List (List Nat)) (d : Nat) : List (List Nat) := L ++ (List.range d).map fun d => q ++ [sfrom q + d]
theorem grow_get (n : Nat) (q : List Nat) (L : List (List Nat)) (d k : Nat) (h : k < L.length) : gr (sI (grow n q L d)) k = gr (sI L) k := by
  simp only [gr, sI, grow, List.map_append]
  simp [List.getD, List.getElem?_append_left, h]
theorem grow_succ (n : Nat) (q : List Nat) (L : List (List Nat)) (d : Nat) : sI (grow n q L (d + 1)) = sI (grow n q L d) ++ [nI q ++ [((sfrom q + d : Nat) : Int)]] := by
  simp [grow, sI, nI, List.range_succ]
set_option maxHeartbeats 4000000 in
theorem subsets_ok (n : Nat) (hn : n ≤ 8) : ACalls Try.prog 15 [I n] [] (fun r o => r = .ref 0 0 (2 ^ n) ∧ o = [some ⟨1, rws (sI (subs n (2 ^ n)))⟩]) := by
  refine ACalls.of_vc Try.func15 rfl (by decide) 43 rfl [.tmp 2] rfl (by simp) ?_
  have hs := subs_ok n hn
  have h2 : 2 ^ n ≤ 256 := Nat.le_trans (Nat.pow_le_pow_right (by omega) hn) (by decide)
  (repeat (first | simp (maxSteps := 2000000) (disch := omega) only [go_sem, ↓reduceIte, Nat.reduceEqDiff, Nat.reduceAdd, Nat.reduceMul, Nat.reduceSub, Int.reduceToNat, Int.reduceAdd, Int.reduceSub, Int.reduceMul, Int.reduceNeg] | with_reducible refine vIf_t ?_ | with_reducible refine vIf_f ?_))
  refine vcLoop_new (fun k : Nat => k ≤ 2 ^ n) (fun k => ⟨43, 0, [(4, I k), (3, .ref 0 0 (subs n k).length), (0, I n)], [some ⟨1, rws (sI (subs n k))⟩]⟩) (fun k => 2 ^ n - k) 0 (.step 0 ⟨1, []⟩ rfl (by (repeat (first | simp (maxSteps := 2000000) (disch := omega) only [go_sem, ↓reduceIte, Nat.reduceEqDiff, Nat.reduceAdd, Nat.reduceMul, Nat.reduceSub, Int.reduceToNat, Int.reduceAdd, Int.reduceSub, Int.reduceMul, Int.reduceNeg] | with_reducible refine vIf_t ?_ | with_reducible refine vIf_f ?_))) (.refl _)) (by omega) (by (repeat (first | simp (maxSteps := 2000000) (disch := omega) only [go_sem, ↓reduceIte, Nat.reduceEqDiff, Nat.reduceAdd, Nat.reduceMul, Nat.reduceSub, Int.reduceToNat, Int.reduceAdd, Int.reduceSub, Int.reduceMul, Int.reduceNeg] | with_reducible refine vIf_t ?_ | with_reducible refine vIf_f ?_)); exact ⟨rfl, rfl⟩) ?_
  intro k hk
  (repeat (first | simp (maxSteps := 2000000) (disch := omega) only [go_sem, ↓reduceIte, Nat.reduceEqDiff, Nat.reduceAdd, Nat.reduceMul, Nat.reduceSub, Int.reduceToNat, Int.reduceAdd, Int.reduceSub, Int.reduceMul, Int.reduceNeg] | with_reducible refine vIf_t ?_ | with_reducible refine vIf_f ?_))
  refine vIf_dec (fun hc => ?_) (fun hc => ?_)
  · have hk2 : k < 2 ^ n := by
      rcases Nat.lt_or_ge k (2 ^ n) with h | h
      · exact h
      · have : k = 2 ^ n := by omega
        rw [this, hs.2.1] at hc; omega
    obtain ⟨b1, b2, b3, b4⟩ := hs.1 k hk2
    have hlq : (sI (subs n k)).length = (subs n k).length := by simp [sI]
    have hgr : gr (sI (subs n k)) k = nI ((subs n k).getD k []) := by simp [gr, sI, b1]
    have hln : (nI ((subs n k).getD k [])).length = ((subs n k).getD k []).length := by simp [nI]
    (repeat (first | simp (maxSteps := 2000000) (disch := omega) only [go_sem, ↓reduceIte, Nat.reduceEqDiff, Nat.reduceAdd, Nat.reduceMul, Nat.reduceSub, Int.reduceToNat, Int.reduceAdd, Int.reduceSub, Int.reduceMul, Int.reduceNeg, hgr, hln, hlq] | with_reducible refine vIf_t ?_ | with_reducible refine vIf_f ?_))
    refine vIf_join1 ⟨43, 0, [(5, I (sfrom ((subs n k).getD k []))), (4, I k), (3, .ref 0 0 (subs n k).length), (0, I n)], [some ⟨1, rws (sI (subs n k))⟩]⟩ (fun h => ?_) (fun h => ?_) ?_
    · have h := of_decide_eq_true h
      have hlast := sfrom_last ((subs n k).getD k []) (by omega)
      (repeat (first | simp (maxSteps := 2000000) (disch := omega) only [go_sem, ↓reduceIte, Nat.reduceEqDiff, Nat.reduceAdd, Nat.reduceMul, Nat.reduceSub, Int.reduceToNat, Int.reduceAdd, Int.reduceSub, Int.reduceMul, Int.reduceNeg, hgr, hln, hlq] | with_reducible refine vIf_t ?_ | with_reducible refine vIf_f ?_))
      have hc2 := last_ok (nI ((subs n k).getD k [])) (by omega) (by omega)
      unfold iS at hc2
      rw [hln] at hc2
      (refine vCallX_of ?_; (repeat (first | simp (maxSteps := 2000000) (disch := omega) only [go_sem, ↓reduceIte, Nat.reduceEqDiff, Nat.reduceAdd, Nat.reduceMul, Nat.reduceSub, Int.reduceToNat, Int.reduceAdd, Int.reduceSub, Int.reduceMul, Int.reduceNeg] | with_reducible refine vIf_t ?_ | with_reducible refine vIf_f ?_)); refine vCall_eq (hc2) (by simp (disch := omega) only [go_sem, Nat.reduceAdd]) rfl (by first | exact Or.inl rfl | exact Or.inr ⟨rfl, rfl⟩ | (apply Or.inr; simp only [go_sem])) ?_; (repeat (first | simp (maxSteps := 2000000) (disch := omega) only [go_sem, ↓reduceIte, Nat.reduceEqDiff, Nat.reduceAdd, Nat.reduceMul, Nat.reduceSub, Int.reduceToNat, Int.reduceAdd, Int.reduceSub, Int.reduceMul, Int.reduceNeg] | with_reducible refine vIf_t ?_ | with_reducible refine vIf_f ?_)))
      refine jn_same () trivial ?_
      rw [hln] at hlast
      (repeat (first | simp (maxSteps := 2000000) (disch := omega) only [go_sem, ↓reduceIte, Nat.reduceEqDiff, Nat.reduceAdd, Nat.reduceMul, Nat.reduceSub, Int.reduceToNat, Int.reduceAdd, Int.reduceSub, Int.reduceMul, Int.reduceNeg, ← hlast] | with_reducible refine vIf_t ?_ | with_reducible refine vIf_f ?_))
    · have h := of_decide_eq_false h
      have e0 : (subs n k).getD k [] = [] := List.eq_nil_of_length_eq_zero (by omega)
      (repeat (first | simp (maxSteps := 2000000) (disch := omega) only [go_sem, ↓reduceIte, Nat.reduceEqDiff, Nat.reduceAdd, Nat.reduceMul, Nat.reduceSub, Int.reduceToNat, Int.reduceAdd, Int.reduceSub, Int.reduceMul, Int.reduceNeg] | with_reducible refine vIf_t ?_ | with_reducible refine vIf_f ?_))
      refine jn_same () trivial ?_
      (repeat (first | simp (maxSteps := 2000000) (disch := omega) only [go_sem, ↓reduceIte, Nat.reduceEqDiff, Nat.reduceAdd, Nat.reduceMul, Nat.reduceSub, Int.reduceToNat, Int.reduceAdd, Int.reduceSub, Int.reduceMul, Int.reduceNeg, e0] | with_reducible refine vIf_t ?_ | with_reducible refine vIf_f ?_))
      rfl
    · have hsub : subs n (k + 1) = grow n ((subs n k).getD k []) (subs n k) (n - sfrom ((subs n k).getD k [])) := rfl
      generalize hq : (subs n k).getD k [] = q at *
      have hgr2 : ∀ d, gr (sI (grow n q (subs n k) d)) k = nI q := fun d => by rw [grow_get _ _ _ _ _ b1, hgr]
      have hlq2 : ∀ d, (sI (grow n q (subs n k) d)).length = (subs n k).length + d := fun d => by simp [sI, grow]
      (repeat (first | simp (maxSteps := 2000000) (disch := omega) only [go_sem, ↓reduceIte, Nat.reduceEqDiff, Nat.reduceAdd, Nat.reduceMul, Nat.reduceSub, Int.reduceToNat, Int.reduceAdd, Int.reduceSub, Int.reduceMul, Int.reduceNeg] | with_reducible refine vIf_t ?_ | with_reducible refine vIf_f ?_))
      refine vcLoop_new (fun d : Nat => d ≤ n - sfrom q) (fun d => ⟨43, 0, [(5, I ((sfrom q + d : Nat) : Int)), (4, I k), (3, .ref 0 0 ((subs n k).length + d)), (0, I n)], [some ⟨1, rws (sI (grow n q (subs n k) d))⟩]⟩) (fun d => n - sfrom q - d) 0 (.refl _) (by omega) (by (repeat (first | simp (maxSteps := 2000000) (disch := omega) only [go_sem, ↓reduceIte, Nat.reduceEqDiff, Nat.reduceAdd, Nat.reduceMul, Nat.reduceSub, Int.reduceToNat, Int.reduceAdd, Int.reduceSub, Int.reduceMul, Int.reduceNeg] | with_reducible refine vIf_t ?_ | with_reducible refine vIf_f ?_)); simp [grow]) ?_
      intro d hd
      (repeat (first | simp (maxSteps := 2000000) (disch := omega) only [go_sem, ↓reduceIte, Nat.reduceEqDiff, Nat.reduceAdd, Nat.reduceMul, Nat.reduceSub, Int.reduceToNat, Int.reduceAdd, Int.reduceSub, Int.reduceMul, Int.reduceNeg] | with_reducible refine vIf_t ?_ | with_reducible refine vIf_f ?_))
      refine vIf_dec (fun hc => ?_) (fun hc => ?_)
      · (repeat (first | simp (maxSteps := 2000000) (disch := omega) only [go_sem, ↓reduceIte, Nat.reduceEqDiff, Nat.reduceAdd, Nat.reduceMul, Nat.reduceSub, Int.reduceToNat, Int.reduceAdd, Int.reduceSub, Int.reduceMul, Int.reduceNeg, hgr2, hln, hlq2] | with_reducible refine vIf_t ?_ | with_reducible refine vIf_f ?_))
        have hc3 := clone_ok (nI q) (by omega)
        unfold iS at hc3
        rw [hln] at hc3
        have hlq3 := hlq2 d
        (refine vCallX_of ?_; (repeat (first | simp (maxSteps := 2000000) (disch := omega) only [go_sem, ↓reduceIte, Nat.reduceEqDiff, Nat.reduceAdd, Nat.reduceMul, Nat.reduceSub, Int.reduceToNat, Int.reduceAdd, Int.reduceSub, Int.reduceMul, Int.reduceNeg] | with_reducible refine vIf_t ?_ | with_reducible refine vIf_f ?_)); refine vCall_eq (hc3) (by simp (disch := omega) only [go_sem, Nat.reduceAdd]) rfl (by first | exact Or.inl rfl | exact Or.inr ⟨rfl, rfl⟩ | (apply Or.inr; simp only [go_sem])) ?_; (repeat (first | simp (maxSteps := 2000000) (disch := omega) only [go_sem, ↓reduceIte, Nat.reduceEqDiff, Nat.reduceAdd, Nat.reduceMul, Nat.reduceSub, Int.reduceToNat, Int.reduceAdd, Int.reduceSub, Int.reduceMul, Int.reduceNeg] | with_reducible refine vIf_t ?_ | with_reducible refine vIf_f ?_)))
        have htk : List.take (q.length + 1) (nI q ++ [((sfrom q + d : Nat) : Int)]) = nI q ++ [((sfrom q + d : Nat) : Int)] := List.take_of_length_le (by simp [hln])
        have hrw : rws (sI (grow n q (subs n k) d)) ++ [V.sl (q.length + 1) (ints (nI q ++ [((sfrom q + d : Nat) : Int)]))] = rws (sI (grow n q (subs n k) (d + 1))) := by
          rw [grow_succ, ← hln, show (nI q).length + 1 = (nI q ++ [((sfrom q + d : Nat) : Int)]).length by simp]
          exact rws_snoc _ _
        refine again_new_frz (d + 1) (by omega) (by omega) (.step 1 ⟨1, ints (nI q ++ [((sfrom q + d : Nat) : Int)])⟩ rfl (by (repeat (first | simp (maxSteps := 2000000) (disch := omega) only [go_sem, ↓reduceIte, Nat.reduceEqDiff, Nat.reduceAdd, Nat.reduceMul, Nat.reduceSub, Int.reduceToNat, Int.reduceAdd, Int.reduceSub, Int.reduceMul, Int.reduceNeg] | with_reducible refine vIf_t ?_ | with_reducible refine vIf_f ?_))) (.refl _)) ?_
        (repeat (first | simp (maxSteps := 2000000) (disch := omega) only [go_sem, ↓reduceIte, Nat.reduceEqDiff, Nat.reduceAdd, Nat.reduceMul, Nat.reduceSub, Int.reduceToNat, Int.reduceAdd, Int.reduceSub, Int.reduceMul, Int.reduceNeg, frz_append, V.frzL, htk, hrw] | with_reducible refine vIf_t ?_ | with_reducible refine vIf_f ?_))
        omega
      · have e : d = n - sfrom q := by omega
        subst e
        (repeat (first | simp (maxSteps := 2000000) (disch := omega) only [go_sem, ↓reduceIte, Nat.reduceEqDiff, Nat.reduceAdd, Nat.reduceMul, Nat.reduceSub, Int.reduceToNat, Int.reduceAdd, Int.reduceSub, Int.reduceMul, Int.reduceNeg] | with_reducible refine vIf_t ?_ | with_reducible refine vIf_f ?_))
        refine again_new (k + 1) (by omega) (by omega) ?_
        rw [hsub]
        (repeat (first | simp (maxSteps := 2000000) (disch := omega) only [go_sem, ↓reduceIte, Nat.reduceEqDiff, Nat.reduceAdd, Nat.reduceMul, Nat.reduceSub, Int.reduceToNat, Int.reduceAdd, Int.reduceSub, Int.reduceMul, Int.reduceNeg] | with_reducible refine vIf_t ?_ | with_reducible refine vIf_f ?_))
        simp [grow]
  · have e : k = 2 ^ n := by
      rcases Nat.lt_or_ge k (2 ^ n) with h | h
      · have := (hs.1 k h).1; omega
      · omega
    subst e
    (repeat (first | simp (maxSteps := 2000000) (disch := omega) only [go_sem, ↓reduceIte, Nat.reduceEqDiff, Nat.reduceAdd, Nat.reduceMul, Nat.reduceSub, Int.reduceToNat, Int.reduceAdd, Int.reduceSub, Int.reduceMul, Int.reduceNeg] | with_reducible refine vIf_t ?_ | with_reducible refine vIf_f ?_))
    (refine retK_of ?_; (repeat (first | simp (maxSteps := 2000000) (disch := omega) only [go_sem, ↓reduceIte, Nat.reduceEqDiff, Nat.reduceAdd, Nat.reduceMul, Nat.reduceSub, Int.reduceToNat, Int.reduceAdd, Int.reduceSub, Int.reduceMul, Int.reduceNeg] | with_reducible refine vIf_t ?_ | with_reducible refine vIf_f ?_)))
    rw [hs.2.1]
end Go.Proofs.Ytpjjjonplikilaa

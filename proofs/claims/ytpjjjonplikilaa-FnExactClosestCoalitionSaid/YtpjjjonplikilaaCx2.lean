/- the closest coalition: the program's walk, where the best set stays one's own -/
import Derived.Test.YtpjjjonplikilaaCx1
import Derived.Test.YtpjjjonplikilaaC1
set_option linter.unusedVariables false
set_option linter.unusedSimpArgs false
namespace Go.Proofs.Ytpjjjonplikilaa
open Go.AG

attribute [local go_sem] beq_self_eq_true bne_self_eq_false Bool.not_true Bool.not_false
/-- rows, where that of an index is an object -/
def rwt (G : List (List Int)) (j l : Nat) : List V := rws (G.take j) ++ V.ref l 0 (gr G j).length :: rws (G.drop (j + 1))
theorem length_rwt (G : List (List Int)) (j l : Nat) (h : j < G.length) : (rwt G j l).length = G.length := by
  simp [rwt, length_rws]; omega
theorem vAt_rwt_eq (G : List (List Int)) (j l : Nat) (h : j < G.length) (K : V → Prop) : vAt (rwt G j l) j K = K (.ref l 0 (gr G j).length) := by
  have hl : (rws (G.take j)).length = j := by rw [length_rws]; simp; omega
  have e : (rwt G j l)[j]? = some (V.ref l 0 (gr G j).length) := by
    unfold rwt
    rw [List.getElem?_append_right (by omega), hl]; simp
  simp [vAt, e, grd]
theorem vAt_rwt_at (G : List (List Int)) (j l k : Nat) (h : j < G.length) (hk : k = j) (K : V → Prop) : vAt (rwt G j l) k K = K (.ref l 0 (gr G j).length) := by rw [hk]; exact vAt_rwt_eq G j l h K
theorem vAt_rwt_ne (G : List (List Int)) (j l k : Nat) (h : j < G.length) (hk : k ≠ j) (K : V → Prop) : vAt (rwt G j l) k K = grd (k < G.length) (K (.sl (gr G k).length (ints (gr G k)))) := by
  have hl : (rws (G.take j)).length = j := by rw [length_rws]; simp; omega
  have e : (rwt G j l)[k]? = (rws G)[k]? := by
    unfold rwt
    rcases Nat.lt_or_ge k j with g | g
    · rw [List.getElem?_append_left (by omega)]
      simp [rws, List.getElem?_take, g]
    · rw [List.getElem?_append_right (by omega), hl, show k - j = (k - j - 1) + 1 by omega, List.getElem?_cons_succ]
      simp only [rws, List.getElem?_map, List.getElem?_drop]
      rw [show j + 1 + (k - j - 1) = k by omega]
  have := vAt_rws G k K
  unfold vAt at this ⊢
  rw [e]; exact this
theorem one_rwt (G : List (List Int)) (j l : Nat) : V.oneL (rwt G j l) = true := by
  unfold rwt
  have h1 := one_rws (G.take j)
  have h2 := one_rws (G.drop (j + 1))
  generalize rws (G.take j) = A at *
  generalize rws (G.drop (j + 1)) = B0 at *
  induction A with
  | nil => simpa [V.oneL, V.one] using h2
  | cons x A ih =>
    simp only [V.oneL, Bool.and_eq_true, List.cons_append] at h1 ⊢
    exact ⟨h1.1, ih h1.2⟩
theorem refs_rwt (G : List (List Int)) (j l : Nat) : V.refsL (rwt G j l) = [l] := by
  unfold rwt
  have h1 := norefL_refs (noref_rws (G.take j))
  have h2 := norefL_refs (noref_rws (G.drop (j + 1)))
  generalize rws (G.take j) = A at *
  generalize rws (G.drop (j + 1)) = B0 at *
  induction A with
  | nil => simp [V.refsL, V.refs, h2]
  | cons x A ih =>
    simp only [V.refsL, List.append_eq_nil_iff, List.cons_append] at h1 ⊢
    rw [h1.1, ih h1.2]; rfl
theorem noref_rwt (G : List (List Int)) (j l : Nat) : V.norefL (rwt G j l) = false := by
  cases h : V.norefL (rwt G j l) with
  | false => rfl
  | true =>
    have := norefL_refs h
    rw [refs_rwt] at this; cases this
theorem imm_rwt (G : List (List Int)) (j l : Nat) : V.immL (rwt G j l) = false := by
  unfold rwt
  generalize rws (G.take j) = A
  induction A with
  | nil => rfl
  | cons x A ih =>
    simp only [V.immL, List.cons_append, ih, Bool.and_false]
theorem kill_rwt (p : Nat → Bool) (G : List (List Int)) (j l : Nat) (h : p l = false) : V.killL p (rwt G j l) = rwt G j l := by
  have h1 := kill_rws p (G.take j)
  have h2 := kill_rws p (G.drop (j + 1))
  rw [killL_eq] at *
  unfold rwt
  rw [List.map_append, h1, List.map_cons, h2]
  simp [V.kill, h]
theorem frz_rwt (f : Nat → Option Ob) (G : List (List Int)) (j l : Nat) (h : f l = none) : V.frzL f (rwt G j l) = rwt G j l := by
  have h1 := frz_rws f (G.take j)
  have h2 := frz_rws f (G.drop (j + 1))
  rw [frzL_eq] at *
  unfold rwt
  rw [List.map_append, h1, List.map_cons, h2]
  simp [V.frz, h]
theorem ren_rwt (f : Nat → Nat) (G : List (List Int)) (j l : Nat) : V.renL f (rwt G j l) = rwt G j (f l) := by
  have h1 := ren_rws f (G.take j)
  have h2 := ren_rws f (G.drop (j + 1))
  rw [renL_eq] at *
  unfold rwt
  rw [List.map_append, h1, List.map_cons, h2]
  simp [V.ren]
theorem rwt_snoc (G : List (List Int)) (j l : Nat) (x : List Int) (h : j < G.length) : rwt G j l ++ [V.sl x.length (ints x)] = rwt (G ++ [x]) j l := by
  unfold rwt
  rw [List.take_append_of_le_length (by omega), List.drop_append_of_le_length (by omega)]
  have e : gr (G ++ [x]) j = gr G j := by simp [gr, List.getElem?_append_left h]
  rw [e, List.append_assoc, List.cons_append, ← rws_snoc]
theorem rwt_new (G : List (List Int)) (l : Nat) (x : List Int) : rws G ++ [V.ref l 0 x.length] = rwt (G ++ [x]) G.length l := by
  unfold rwt
  rw [List.take_left, List.drop_of_length_le (by simp)]
  have e : gr (G ++ [x]) G.length = x := by simp [gr]
  rw [e]; rfl
/-- the lists, before and behind the row of that index -/
def obJ (G : List (List Int)) (j : Nat) : Objs := if j < G.length then [some ⟨1, rwt G j 1⟩, oI (gr G j)] else [some ⟨1, rws G⟩]
theorem obJ_y {G : List (List Int)} {j : Nat} (h : j < G.length) : obJ G j = [some ⟨1, rwt G j 1⟩, oI (gr G j)] := if_pos h
theorem obJ_n {G : List (List Int)} {j : Nat} (h : ¬ j < G.length) : obJ G j = [some ⟨1, rws G⟩] := if_neg h
theorem lastJ_ok (xs : List Int) (hl : xs.length ≤ 10000000) (h : 1 ≤ xs.length) : ACalls Try.prog 24 [.sl xs.length (ints xs)] [] (fun r o => r = I (gi xs (xs.length - 1)) ∧ o = []) := last_ok xs hl h
theorem cloneJ_ok (xs : List Int) (hl : xs.length ≤ 10000000) : ACalls Try.prog 25 [.ref 0 0 xs.length] [oI xs] (fun r o => r = .ref 1 0 xs.length ∧ o = [oI xs, oI xs]) := by
  refine ACalls.of_vc Try.func25 rfl (by decide) 6 rfl [.tmp 2] rfl (by simp) ?_
  (repeat (first | simp (maxSteps := 2000000) (disch := omega) only [go_sem, ↓reduceIte, Nat.reduceEqDiff, Nat.reduceAdd, Nat.reduceMul, Nat.reduceSub, Int.reduceToNat, Int.reduceAdd, Int.reduceSub, Int.reduceMul, Int.reduceNeg] | with_reducible refine vIf_t ?_ | with_reducible refine vIf_f ?_))
  (refine retK_of ?_; (repeat (first | simp (maxSteps := 2000000) (disch := omega) only [go_sem, ↓reduceIte, Nat.reduceEqDiff, Nat.reduceAdd, Nat.reduceMul, Nat.reduceSub, Int.reduceToNat, Int.reduceAdd, Int.reduceSub, Int.reduceMul, Int.reduceNeg] | with_reducible refine vIf_t ?_ | with_reducible refine vIf_f ?_)))
structure BoxJ (G : Prop) : Prop where
  g : G
theorem joinJ {G H : Prop} (h : BoxJ G → H) (g : G) : H := h ⟨g⟩
theorem frz_rwt_one (G : List (List Int)) (j l l2 : Nat) (o : Ob) (h : l ≠ l2) : V.frzL (oneF l2 o) (rwt G j l) = rwt G j l := frz_rwt _ _ _ _ (by unfold oneF; rw [show Nat.beq l l2 = false from by cases hb : Nat.beq l l2 with | false => rfl | true => exact absurd (Nat.eq_of_beq_eq_true hb) h]; rfl)
theorem kill_rwt_from (G : List (List Int)) (j l m : Nat) (h : l < m) : V.killL (fromB m) (rwt G j l) = rwt G j l := kill_rwt _ _ _ _ (by
  unfold fromB
  cases hb : Nat.ble m l with
  | false => rfl
  | true => have := Nat.le_of_ble_eq_true hb; omega)
theorem kill_rwt_B (G : List (List Int)) (j l m : Nat) (h : l ≠ m) : V.killL (killB m) (rwt G j l) = rwt G j l := kill_rwt _ _ _ _ (by
  unfold killB
  cases hb : Nat.beq l m with
  | false => rfl
  | true => exact absurd (Nat.eq_of_beq_eq_true hb) h)
attribute [local go_sem] kill_rwt_B refs_rwt noref_rwt one_rwt imm_rwt ren_rwt kill_rwt_from frz_rwt_one length_rwt rwt_snoc
set_option maxRecDepth 20000 in
set_option maxHeartbeats 4000000 in
theorem subsetsJ_ok (n : Nat) (hn : n ≤ 8) (j : Nat) (hj1 : 1 ≤ j) (hj : j < 2 ^ n) : ACalls Try.prog 15 [I n] [] (fun r o => r = .ref 0 0 (2 ^ n) ∧ o = [some ⟨1, rwt (sI (subs n (2 ^ n))) j 1⟩, oI (gr (sI (subs n (2 ^ n))) j)]) := by
  refine ACalls.of_vc Try.func15 rfl (by decide) 43 rfl [.tmp 2] rfl (by simp) ?_
  have hs := subs_ok n hn
  have h2 : 2 ^ n ≤ 256 := Nat.le_trans (Nat.pow_le_pow_right (by omega) hn) (by decide)
  (repeat (first | simp (maxSteps := 2000000) (disch := omega) only [go_sem, ↓reduceIte, Nat.reduceEqDiff, Nat.reduceAdd, Nat.reduceMul, Nat.reduceSub, Int.reduceToNat, Int.reduceAdd, Int.reduceSub, Int.reduceMul, Int.reduceNeg] | with_reducible refine vIf_t ?_ | with_reducible refine vIf_f ?_))
  refine vcLoop_new (fun k : Nat => k ≤ 2 ^ n) (fun k => ⟨43, 0, [(4, I k), (3, .ref 0 0 (subs n k).length), (0, I n)], obJ (sI (subs n k)) j⟩) (fun k => 2 ^ n - k) 0 (.step 0 ⟨1, []⟩ rfl (by (repeat (first | simp (maxSteps := 2000000) (disch := omega) only [go_sem, ↓reduceIte, Nat.reduceEqDiff, Nat.reduceAdd, Nat.reduceMul, Nat.reduceSub, Int.reduceToNat, Int.reduceAdd, Int.reduceSub, Int.reduceMul, Int.reduceNeg] | with_reducible refine vIf_t ?_ | with_reducible refine vIf_f ?_))) (.refl _)) (by omega) (by rw [obJ_n (by simp [subs, sI]; omega)]; (repeat (first | simp (maxSteps := 2000000) (disch := omega) only [go_sem, ↓reduceIte, Nat.reduceEqDiff, Nat.reduceAdd, Nat.reduceMul, Nat.reduceSub, Int.reduceToNat, Int.reduceAdd, Int.reduceSub, Int.reduceMul, Int.reduceNeg] | with_reducible refine vIf_t ?_ | with_reducible refine vIf_f ?_)); exact ⟨rfl, rfl⟩) ?_
  intro k hk
  (repeat (first | simp (maxSteps := 2000000) (disch := omega) only [go_sem, ↓reduceIte, Nat.reduceEqDiff, Nat.reduceAdd, Nat.reduceMul, Nat.reduceSub, Int.reduceToNat, Int.reduceAdd, Int.reduceSub, Int.reduceMul, Int.reduceNeg] | with_reducible refine vIf_t ?_ | with_reducible refine vIf_f ?_))
  refine vIf_dec (fun hc => ?_) (fun hc => ?_)
  · have hk2 : k < 2 ^ n := by
      rcases Nat.lt_or_ge k (2 ^ n) with h | h
      · exact h
      · have : k = 2 ^ n := by omega
        rw [this, hs.2.1] at hc; omega
    obtain ⟨b1, b2, b3, b4⟩ := hs.1 k hk2
    have hlq : (sI (subs n k)).length = (subs n k).length := by simp [sI]
    have hgr : gr (sI (subs n k)) k = nI ((subs n k).getD k []) := by simp [gr, sI, b1]
    have hsub : subs n (k + 1) = grow n ((subs n k).getD k []) (subs n k) (n - sfrom ((subs n k).getD k [])) := rfl
    obtain ⟨q, hq⟩ : ∃ q, q = (subs n k).getD k [] := ⟨_, rfl⟩
    rw [← hq] at b2 b3 hgr hsub
    have hln : (nI q).length = q.length := by simp [nI]
    (repeat (first | simp (maxSteps := 2000000) (disch := omega) only [go_sem, ↓reduceIte, Nat.reduceEqDiff, Nat.reduceAdd, Nat.reduceMul, Nat.reduceSub, Int.reduceToNat, Int.reduceAdd, Int.reduceSub, Int.reduceMul, Int.reduceNeg] | with_reducible refine vIf_t ?_ | with_reducible refine vIf_f ?_))
    apply joinJ
    · intro common
      by_cases hjm : j < (sI (subs n k)).length
      · by_cases hkj : k = j
        · have hgj : gr (sI (subs n k)) j = nI q := by rw [← hkj]; exact hgr
          rw [obJ_y hjm]
          (repeat (first | simp (maxSteps := 2000000) (disch := omega) only [go_sem, ↓reduceIte, Nat.reduceEqDiff, Nat.reduceAdd, Nat.reduceMul, Nat.reduceSub, Int.reduceToNat, Int.reduceAdd, Int.reduceSub, Int.reduceMul, Int.reduceNeg, vAt_rwt_at _ _ _ _ hjm hkj, hgr, hln, hlq, hgj] | with_reducible refine vIf_t ?_ | with_reducible refine vIf_f ?_))
          refine vIf_join1 ⟨43, 0, [(5, I (sfrom q)), (4, I k), (3, .ref 0 0 (subs n k).length), (0, I n)], obJ (sI (subs n k)) j⟩ (fun h => ?_) (fun h => ?_) common.g
          · have h := of_decide_eq_true h
            have hlast := sfrom_last q (by omega)
            (repeat (first | simp (maxSteps := 2000000) (disch := omega) only [go_sem, ↓reduceIte, Nat.reduceEqDiff, Nat.reduceAdd, Nat.reduceMul, Nat.reduceSub, Int.reduceToNat, Int.reduceAdd, Int.reduceSub, Int.reduceMul, Int.reduceNeg, vAt_rwt_at _ _ _ _ hjm hkj, hgr, hln, hlq, hgj] | with_reducible refine vIf_t ?_ | with_reducible refine vIf_f ?_))
            have hc2 := lastJ_ok (nI q) (by omega) (by omega)
            rw [hln] at hc2
            (refine vCallX_of ?_; (repeat (first | simp (maxSteps := 2000000) (disch := omega) only [go_sem, ↓reduceIte, Nat.reduceEqDiff, Nat.reduceAdd, Nat.reduceMul, Nat.reduceSub, Int.reduceToNat, Int.reduceAdd, Int.reduceSub, Int.reduceMul, Int.reduceNeg] | with_reducible refine vIf_t ?_ | with_reducible refine vIf_f ?_)); refine vCall_eq (hc2) (by simp (disch := omega) only [go_sem, Nat.reduceAdd]) rfl (by first | exact Or.inl rfl | exact Or.inr ⟨rfl, rfl⟩ | (apply Or.inr; simp only [go_sem])) ?_; (repeat (first | simp (maxSteps := 2000000) (disch := omega) only [go_sem, ↓reduceIte, Nat.reduceEqDiff, Nat.reduceAdd, Nat.reduceMul, Nat.reduceSub, Int.reduceToNat, Int.reduceAdd, Int.reduceSub, Int.reduceMul, Int.reduceNeg] | with_reducible refine vIf_t ?_ | with_reducible refine vIf_f ?_)))
            rw [obJ_y hjm, hgj]
            refine jn_same () trivial ?_
            rw [hln] at hlast
            (repeat (first | simp (maxSteps := 2000000) (disch := omega) only [go_sem, ↓reduceIte, Nat.reduceEqDiff, Nat.reduceAdd, Nat.reduceMul, Nat.reduceSub, Int.reduceToNat, Int.reduceAdd, Int.reduceSub, Int.reduceMul, Int.reduceNeg, ← hlast] | with_reducible refine vIf_t ?_ | with_reducible refine vIf_f ?_))
          · have h := of_decide_eq_false h
            have e0 : q = [] := List.eq_nil_of_length_eq_zero (by omega)
            (repeat (first | simp (maxSteps := 2000000) (disch := omega) only [go_sem, ↓reduceIte, Nat.reduceEqDiff, Nat.reduceAdd, Nat.reduceMul, Nat.reduceSub, Int.reduceToNat, Int.reduceAdd, Int.reduceSub, Int.reduceMul, Int.reduceNeg] | with_reducible refine vIf_t ?_ | with_reducible refine vIf_f ?_))
            rw [obJ_y hjm, hgj]
            refine jn_same () trivial ?_
            (repeat (first | simp (maxSteps := 2000000) (disch := omega) only [go_sem, ↓reduceIte, Nat.reduceEqDiff, Nat.reduceAdd, Nat.reduceMul, Nat.reduceSub, Int.reduceToNat, Int.reduceAdd, Int.reduceSub, Int.reduceMul, Int.reduceNeg, e0] | with_reducible refine vIf_t ?_ | with_reducible refine vIf_f ?_))
            rfl
        · rw [obJ_y hjm]
          (repeat (first | simp (maxSteps := 2000000) (disch := omega) only [go_sem, ↓reduceIte, Nat.reduceEqDiff, Nat.reduceAdd, Nat.reduceMul, Nat.reduceSub, Int.reduceToNat, Int.reduceAdd, Int.reduceSub, Int.reduceMul, Int.reduceNeg, vAt_rwt_ne _ _ _ _ hjm hkj, hgr, hln, hlq] | with_reducible refine vIf_t ?_ | with_reducible refine vIf_f ?_))
          refine vIf_join1 ⟨43, 0, [(5, I (sfrom q)), (4, I k), (3, .ref 0 0 (subs n k).length), (0, I n)], obJ (sI (subs n k)) j⟩ (fun h => ?_) (fun h => ?_) common.g
          · have h := of_decide_eq_true h
            have hlast := sfrom_last q (by omega)
            (repeat (first | simp (maxSteps := 2000000) (disch := omega) only [go_sem, ↓reduceIte, Nat.reduceEqDiff, Nat.reduceAdd, Nat.reduceMul, Nat.reduceSub, Int.reduceToNat, Int.reduceAdd, Int.reduceSub, Int.reduceMul, Int.reduceNeg, vAt_rwt_ne _ _ _ _ hjm hkj, hgr, hln, hlq] | with_reducible refine vIf_t ?_ | with_reducible refine vIf_f ?_))
            have hc2 := lastJ_ok (nI q) (by omega) (by omega)
            rw [hln] at hc2
            (refine vCallX_of ?_; (repeat (first | simp (maxSteps := 2000000) (disch := omega) only [go_sem, ↓reduceIte, Nat.reduceEqDiff, Nat.reduceAdd, Nat.reduceMul, Nat.reduceSub, Int.reduceToNat, Int.reduceAdd, Int.reduceSub, Int.reduceMul, Int.reduceNeg] | with_reducible refine vIf_t ?_ | with_reducible refine vIf_f ?_)); refine vCall_eq (hc2) (by simp (disch := omega) only [go_sem, Nat.reduceAdd]) rfl (by first | exact Or.inl rfl | exact Or.inr ⟨rfl, rfl⟩ | (apply Or.inr; simp only [go_sem])) ?_; (repeat (first | simp (maxSteps := 2000000) (disch := omega) only [go_sem, ↓reduceIte, Nat.reduceEqDiff, Nat.reduceAdd, Nat.reduceMul, Nat.reduceSub, Int.reduceToNat, Int.reduceAdd, Int.reduceSub, Int.reduceMul, Int.reduceNeg] | with_reducible refine vIf_t ?_ | with_reducible refine vIf_f ?_)))
            rw [obJ_y hjm]
            refine jn_same () trivial ?_
            rw [hln] at hlast
            (repeat (first | simp (maxSteps := 2000000) (disch := omega) only [go_sem, ↓reduceIte, Nat.reduceEqDiff, Nat.reduceAdd, Nat.reduceMul, Nat.reduceSub, Int.reduceToNat, Int.reduceAdd, Int.reduceSub, Int.reduceMul, Int.reduceNeg, ← hlast] | with_reducible refine vIf_t ?_ | with_reducible refine vIf_f ?_))
          · have h := of_decide_eq_false h
            have e0 : q = [] := List.eq_nil_of_length_eq_zero (by omega)
            (repeat (first | simp (maxSteps := 2000000) (disch := omega) only [go_sem, ↓reduceIte, Nat.reduceEqDiff, Nat.reduceAdd, Nat.reduceMul, Nat.reduceSub, Int.reduceToNat, Int.reduceAdd, Int.reduceSub, Int.reduceMul, Int.reduceNeg] | with_reducible refine vIf_t ?_ | with_reducible refine vIf_f ?_))
            rw [obJ_y hjm]
            refine jn_same () trivial ?_
            (repeat (first | simp (maxSteps := 2000000) (disch := omega) only [go_sem, ↓reduceIte, Nat.reduceEqDiff, Nat.reduceAdd, Nat.reduceMul, Nat.reduceSub, Int.reduceToNat, Int.reduceAdd, Int.reduceSub, Int.reduceMul, Int.reduceNeg, e0] | with_reducible refine vIf_t ?_ | with_reducible refine vIf_f ?_))
            rfl
      · rw [obJ_n hjm]
        (repeat (first | simp (maxSteps := 2000000) (disch := omega) only [go_sem, ↓reduceIte, Nat.reduceEqDiff, Nat.reduceAdd, Nat.reduceMul, Nat.reduceSub, Int.reduceToNat, Int.reduceAdd, Int.reduceSub, Int.reduceMul, Int.reduceNeg, hgr, hln, hlq] | with_reducible refine vIf_t ?_ | with_reducible refine vIf_f ?_))
        refine vIf_join1 ⟨43, 0, [(5, I (sfrom q)), (4, I k), (3, .ref 0 0 (subs n k).length), (0, I n)], obJ (sI (subs n k)) j⟩ (fun h => ?_) (fun h => ?_) common.g
        · have h := of_decide_eq_true h
          have hlast := sfrom_last q (by omega)
          (repeat (first | simp (maxSteps := 2000000) (disch := omega) only [go_sem, ↓reduceIte, Nat.reduceEqDiff, Nat.reduceAdd, Nat.reduceMul, Nat.reduceSub, Int.reduceToNat, Int.reduceAdd, Int.reduceSub, Int.reduceMul, Int.reduceNeg, hgr, hln, hlq] | with_reducible refine vIf_t ?_ | with_reducible refine vIf_f ?_))
          have hc2 := last_ok (nI q) (by omega) (by omega)
          unfold iS at hc2
          rw [hln] at hc2
          (refine vCallX_of ?_; (repeat (first | simp (maxSteps := 2000000) (disch := omega) only [go_sem, ↓reduceIte, Nat.reduceEqDiff, Nat.reduceAdd, Nat.reduceMul, Nat.reduceSub, Int.reduceToNat, Int.reduceAdd, Int.reduceSub, Int.reduceMul, Int.reduceNeg] | with_reducible refine vIf_t ?_ | with_reducible refine vIf_f ?_)); refine vCall_eq (hc2) (by simp (disch := omega) only [go_sem, Nat.reduceAdd]) rfl (by first | exact Or.inl rfl | exact Or.inr ⟨rfl, rfl⟩ | (apply Or.inr; simp only [go_sem])) ?_; (repeat (first | simp (maxSteps := 2000000) (disch := omega) only [go_sem, ↓reduceIte, Nat.reduceEqDiff, Nat.reduceAdd, Nat.reduceMul, Nat.reduceSub, Int.reduceToNat, Int.reduceAdd, Int.reduceSub, Int.reduceMul, Int.reduceNeg] | with_reducible refine vIf_t ?_ | with_reducible refine vIf_f ?_)))
          rw [obJ_n hjm]
          refine jn_same () trivial ?_
          rw [hln] at hlast
          (repeat (first | simp (maxSteps := 2000000) (disch := omega) only [go_sem, ↓reduceIte, Nat.reduceEqDiff, Nat.reduceAdd, Nat.reduceMul, Nat.reduceSub, Int.reduceToNat, Int.reduceAdd, Int.reduceSub, Int.reduceMul, Int.reduceNeg, ← hlast] | with_reducible refine vIf_t ?_ | with_reducible refine vIf_f ?_))
        · have h := of_decide_eq_false h
          have e0 : q = [] := List.eq_nil_of_length_eq_zero (by omega)
          (repeat (first | simp (maxSteps := 2000000) (disch := omega) only [go_sem, ↓reduceIte, Nat.reduceEqDiff, Nat.reduceAdd, Nat.reduceMul, Nat.reduceSub, Int.reduceToNat, Int.reduceAdd, Int.reduceSub, Int.reduceMul, Int.reduceNeg] | with_reducible refine vIf_t ?_ | with_reducible refine vIf_f ?_))
          rw [obJ_n hjm]
          refine jn_same () trivial ?_
          (repeat (first | simp (maxSteps := 2000000) (disch := omega) only [go_sem, ↓reduceIte, Nat.reduceEqDiff, Nat.reduceAdd, Nat.reduceMul, Nat.reduceSub, Int.reduceToNat, Int.reduceAdd, Int.reduceSub, Int.reduceMul, Int.reduceNeg, e0] | with_reducible refine vIf_t ?_ | with_reducible refine vIf_f ?_))
          rfl
    have hgr2 : ∀ d, gr (sI (grow n q (subs n k) d)) k = nI q := fun d => by rw [grow_get _ _ _ _ _ b1, hgr]
    have hlq2 : ∀ d, (sI (grow n q (subs n k) d)).length = (subs n k).length + d := fun d => by simp [sI, grow]
    have g0 : sI (grow n q (subs n k) 0) = sI (subs n k) := by simp [grow]
    (repeat (first | simp (maxSteps := 2000000) (disch := omega) only [go_sem, ↓reduceIte, Nat.reduceEqDiff, Nat.reduceAdd, Nat.reduceMul, Nat.reduceSub, Int.reduceToNat, Int.reduceAdd, Int.reduceSub, Int.reduceMul, Int.reduceNeg] | with_reducible refine vIf_t ?_ | with_reducible refine vIf_f ?_))
    refine vcLoop_new (fun d : Nat => d ≤ n - sfrom q) (fun d => ⟨43, 0, [(5, I ((sfrom q + d : Nat) : Int)), (4, I k), (3, .ref 0 0 ((subs n k).length + d)), (0, I n)], obJ (sI (grow n q (subs n k) d)) j⟩) (fun d => n - sfrom q - d) 0 (.refl _) (by omega) (by rw [g0]; by_cases hjm : j < (sI (subs n k)).length <;> simp only [obJ_y, obJ_n, hjm, not_false_iff] <;> (repeat (first | simp (maxSteps := 2000000) (disch := omega) only [go_sem, ↓reduceIte, Nat.reduceEqDiff, Nat.reduceAdd, Nat.reduceMul, Nat.reduceSub, Int.reduceToNat, Int.reduceAdd, Int.reduceSub, Int.reduceMul, Int.reduceNeg] | with_reducible refine vIf_t ?_ | with_reducible refine vIf_f ?_))) ?_
    intro d hd
    have hstep : sI (grow n q (subs n k) (d + 1)) = sI (grow n q (subs n k) d) ++ [nI q ++ [((sfrom q + d : Nat) : Int)]] := grow_succ _ _ _ _
    have hgd := hgr2 d
    have hld := hlq2 d
    have gend : sI (subs n (k + 1)) = sI (grow n q (subs n k) (n - sfrom q)) := by rw [hsub]
    have gendl : (subs n (k + 1)).length = (subs n k).length + (n - sfrom q) := by rw [hsub]; simp [grow]
    (repeat (first | simp (maxSteps := 2000000) (disch := omega) only [go_sem, ↓reduceIte, Nat.reduceEqDiff, Nat.reduceAdd, Nat.reduceMul, Nat.reduceSub, Int.reduceToNat, Int.reduceAdd, Int.reduceSub, Int.reduceMul, Int.reduceNeg] | with_reducible refine vIf_t ?_ | with_reducible refine vIf_f ?_))
    refine vIf_dec (fun hc => ?_) (fun hc => ?_)
    · have hl3 := clone_ok (nI q) (by omega)
      have hl4 := cloneJ_ok (nI q) (by omega)
      unfold iS at hl3
      rw [hln] at hl3 hl4
      have htk : List.take (q.length + 1) (nI q ++ [((sfrom q + d : Nat) : Int)]) = nI q ++ [((sfrom q + d : Nat) : Int)] := List.take_of_length_le (by simp [hln])
      obtain ⟨x, hx⟩ : ∃ x, x = nI q ++ [((sfrom q + d : Nat) : Int)] := ⟨_, rfl⟩
      have hxl : x.length = q.length + 1 := by rw [hx]; simp [hln]
      have hld2 := hlq2 (d + 1)
      rw [← hx] at hstep htk
      by_cases hjm : j < (sI (grow n q (subs n k) d)).length
      · have hjm2 : j < (sI (grow n q (subs n k) (d + 1))).length := by omega
        have hsn := rwt_snoc (sI (grow n q (subs n k) d)) j 1 x hjm
        rw [← hstep, hxl] at hsn
        have htk2 : List.take ((subs n k).length + d) (rwt (sI (grow n q (subs n k) d)) j 1) = rwt (sI (grow n q (subs n k) d)) j 1 := List.take_of_length_le (by rw [length_rwt _ _ _ hjm]; omega)
        have hgrj : gr (sI (grow n q (subs n k) (d + 1))) j = gr (sI (grow n q (subs n k) d)) j := by
          rw [hstep]; simp [gr, List.getElem?_append_left hjm]
        rw [obJ_y hjm]
        by_cases hkj : k = j
        · have hgj : gr (sI (grow n q (subs n k) d)) j = nI q := by rw [← hkj]; exact hgd
          (repeat (first | simp (maxSteps := 2000000) (disch := omega) only [go_sem, ↓reduceIte, Nat.reduceEqDiff, Nat.reduceAdd, Nat.reduceMul, Nat.reduceSub, Int.reduceToNat, Int.reduceAdd, Int.reduceSub, Int.reduceMul, Int.reduceNeg, vAt_rwt_at _ _ _ _ hjm hkj, hgd, hgj, hln, hld] | with_reducible refine vIf_t ?_ | with_reducible refine vIf_f ?_))
          (refine vCallX_io [1] ?_; (repeat (first | simp (maxSteps := 2000000) (disch := omega) only [go_sem, ↓reduceIte, Nat.reduceEqDiff, Nat.reduceAdd, Nat.reduceMul, Nat.reduceSub, Int.reduceToNat, Int.reduceAdd, Int.reduceSub, Int.reduceMul, Int.reduceNeg] | with_reducible refine vIf_t ?_ | with_reducible refine vIf_f ?_)); refine vCallIO_eq (hl4) (by simp (disch := omega) only [go_sem, Nat.reduceAdd, Nat.reduceEqDiff]) (by simp (disch := omega) only [go_sem, Nat.reduceAdd, Nat.reduceEqDiff]) (by first | rfl | (simp (disch := omega) only [go_sem, Nat.reduceAdd, Nat.reduceEqDiff])) (by first | rfl | (simp (disch := omega) only [go_sem, Nat.reduceAdd, Nat.reduceEqDiff])) (by first | rfl | (simp (disch := omega) only [go_sem, Nat.reduceAdd, Nat.reduceEqDiff])) (by first | (simp (disch := omega) only [go_sem, Nat.reduceAdd, Nat.reduceEqDiff]) | skip) ?_; (repeat (first | simp (maxSteps := 2000000) (disch := omega) only [go_sem, ↓reduceIte, Nat.reduceEqDiff, Nat.reduceAdd, Nat.reduceMul, Nat.reduceSub, Int.reduceToNat, Int.reduceAdd, Int.reduceSub, Int.reduceMul, Int.reduceNeg] | with_reducible refine vIf_t ?_ | with_reducible refine vIf_f ?_)))
          rw [← hx]
          refine again_new_frz (d + 1) (by omega) (by omega) (.step 2 ⟨1, ints x⟩ rfl (by (repeat (first | simp (maxSteps := 2000000) (disch := omega) only [go_sem, ↓reduceIte, Nat.reduceEqDiff, Nat.reduceAdd, Nat.reduceMul, Nat.reduceSub, Int.reduceToNat, Int.reduceAdd, Int.reduceSub, Int.reduceMul, Int.reduceNeg] | with_reducible refine vIf_t ?_ | with_reducible refine vIf_f ?_))) (.refl _)) ?_
          rw [obJ_y hjm2, hgrj, hgj]
          (repeat (first | simp (maxSteps := 2000000) (disch := omega) only [go_sem, ↓reduceIte, Nat.reduceEqDiff, Nat.reduceAdd, Nat.reduceMul, Nat.reduceSub, Int.reduceToNat, Int.reduceAdd, Int.reduceSub, Int.reduceMul, Int.reduceNeg, frz_append, V.frzL, htk, htk2, hsn] | with_reducible refine vIf_t ?_ | with_reducible refine vIf_f ?_))
          omega
        · (repeat (first | simp (maxSteps := 2000000) (disch := omega) only [go_sem, ↓reduceIte, Nat.reduceEqDiff, Nat.reduceAdd, Nat.reduceMul, Nat.reduceSub, Int.reduceToNat, Int.reduceAdd, Int.reduceSub, Int.reduceMul, Int.reduceNeg, vAt_rwt_ne _ _ _ _ hjm hkj, hgd, hln, hld] | with_reducible refine vIf_t ?_ | with_reducible refine vIf_f ?_))
          (refine vCallX_of ?_; (repeat (first | simp (maxSteps := 2000000) (disch := omega) only [go_sem, ↓reduceIte, Nat.reduceEqDiff, Nat.reduceAdd, Nat.reduceMul, Nat.reduceSub, Int.reduceToNat, Int.reduceAdd, Int.reduceSub, Int.reduceMul, Int.reduceNeg] | with_reducible refine vIf_t ?_ | with_reducible refine vIf_f ?_)); refine vCall_eq (hl3) (by simp (disch := omega) only [go_sem, Nat.reduceAdd]) rfl (by first | exact Or.inl rfl | exact Or.inr ⟨rfl, rfl⟩ | (apply Or.inr; simp only [go_sem])) ?_; (repeat (first | simp (maxSteps := 2000000) (disch := omega) only [go_sem, ↓reduceIte, Nat.reduceEqDiff, Nat.reduceAdd, Nat.reduceMul, Nat.reduceSub, Int.reduceToNat, Int.reduceAdd, Int.reduceSub, Int.reduceMul, Int.reduceNeg] | with_reducible refine vIf_t ?_ | with_reducible refine vIf_f ?_)))
          rw [← hx]
          refine again_new_frz (d + 1) (by omega) (by omega) (.step 2 ⟨1, ints x⟩ rfl (by (repeat (first | simp (maxSteps := 2000000) (disch := omega) only [go_sem, ↓reduceIte, Nat.reduceEqDiff, Nat.reduceAdd, Nat.reduceMul, Nat.reduceSub, Int.reduceToNat, Int.reduceAdd, Int.reduceSub, Int.reduceMul, Int.reduceNeg] | with_reducible refine vIf_t ?_ | with_reducible refine vIf_f ?_))) (.refl _)) ?_
          rw [obJ_y hjm2, hgrj]
          (repeat (first | simp (maxSteps := 2000000) (disch := omega) only [go_sem, ↓reduceIte, Nat.reduceEqDiff, Nat.reduceAdd, Nat.reduceMul, Nat.reduceSub, Int.reduceToNat, Int.reduceAdd, Int.reduceSub, Int.reduceMul, Int.reduceNeg, frz_append, V.frzL, htk, htk2, hsn] | with_reducible refine vIf_t ?_ | with_reducible refine vIf_f ?_))
          omega
      · have hjm' : ¬ j < (sI (grow n q (subs n k) d)).length := hjm
        rw [obJ_n hjm]
        (repeat (first | simp (maxSteps := 2000000) (disch := omega) only [go_sem, ↓reduceIte, Nat.reduceEqDiff, Nat.reduceAdd, Nat.reduceMul, Nat.reduceSub, Int.reduceToNat, Int.reduceAdd, Int.reduceSub, Int.reduceMul, Int.reduceNeg, hgd, hln, hld] | with_reducible refine vIf_t ?_ | with_reducible refine vIf_f ?_))
        (refine vCallX_of ?_; (repeat (first | simp (maxSteps := 2000000) (disch := omega) only [go_sem, ↓reduceIte, Nat.reduceEqDiff, Nat.reduceAdd, Nat.reduceMul, Nat.reduceSub, Int.reduceToNat, Int.reduceAdd, Int.reduceSub, Int.reduceMul, Int.reduceNeg] | with_reducible refine vIf_t ?_ | with_reducible refine vIf_f ?_)); refine vCall_eq (hl3) (by simp (disch := omega) only [go_sem, Nat.reduceAdd]) rfl (by first | exact Or.inl rfl | exact Or.inr ⟨rfl, rfl⟩ | (apply Or.inr; simp only [go_sem])) ?_; (repeat (first | simp (maxSteps := 2000000) (disch := omega) only [go_sem, ↓reduceIte, Nat.reduceEqDiff, Nat.reduceAdd, Nat.reduceMul, Nat.reduceSub, Int.reduceToNat, Int.reduceAdd, Int.reduceSub, Int.reduceMul, Int.reduceNeg] | with_reducible refine vIf_t ?_ | with_reducible refine vIf_f ?_)))
        rw [← hx]
        by_cases hjd : j = (sI (grow n q (subs n k) d)).length
        · have hjm2 : j < (sI (grow n q (subs n k) (d + 1))).length := by omega
          have hgrj : gr (sI (grow n q (subs n k) (d + 1))) j = x := by rw [hstep, hjd]; simp [gr]
          have hrn := rwt_new (sI (grow n q (subs n k) d)) 1 x
          rw [← hstep, ← hjd, hxl] at hrn
          refine again_new (d + 1) (by omega) (by omega) ?_
          rw [obJ_y hjm2, hgrj]
          (repeat (first | simp (maxSteps := 2000000) (disch := omega) only [go_sem, ↓reduceIte, Nat.reduceEqDiff, Nat.reduceAdd, Nat.reduceMul, Nat.reduceSub, Int.reduceToNat, Int.reduceAdd, Int.reduceSub, Int.reduceMul, Int.reduceNeg, htk, hrn] | with_reducible refine vIf_t ?_ | with_reducible refine vIf_f ?_))
          omega
        · have hjm2 : ¬ j < (sI (grow n q (subs n k) (d + 1))).length := by omega
          have hrw : rws (sI (grow n q (subs n k) d)) ++ [V.sl (q.length + 1) (ints x)] = rws (sI (grow n q (subs n k) (d + 1))) := by
            rw [hstep, ← hxl]; exact rws_snoc _ _
          refine again_new_frz (d + 1) (by omega) (by omega) (.step 1 ⟨1, ints x⟩ rfl (by (repeat (first | simp (maxSteps := 2000000) (disch := omega) only [go_sem, ↓reduceIte, Nat.reduceEqDiff, Nat.reduceAdd, Nat.reduceMul, Nat.reduceSub, Int.reduceToNat, Int.reduceAdd, Int.reduceSub, Int.reduceMul, Int.reduceNeg] | with_reducible refine vIf_t ?_ | with_reducible refine vIf_f ?_))) (.refl _)) ?_
          rw [obJ_n hjm2]
          (repeat (first | simp (maxSteps := 2000000) (disch := omega) only [go_sem, ↓reduceIte, Nat.reduceEqDiff, Nat.reduceAdd, Nat.reduceMul, Nat.reduceSub, Int.reduceToNat, Int.reduceAdd, Int.reduceSub, Int.reduceMul, Int.reduceNeg, frz_append, V.frzL, htk, hrw] | with_reducible refine vIf_t ?_ | with_reducible refine vIf_f ?_))
          omega
    · have e : d = n - sfrom q := by omega
      subst e
      by_cases hjm : j < (sI (subs n (k + 1))).length
      · rw [← gend, obJ_y hjm]
        (repeat (first | simp (maxSteps := 2000000) (disch := omega) only [go_sem, ↓reduceIte, Nat.reduceEqDiff, Nat.reduceAdd, Nat.reduceMul, Nat.reduceSub, Int.reduceToNat, Int.reduceAdd, Int.reduceSub, Int.reduceMul, Int.reduceNeg] | with_reducible refine vIf_t ?_ | with_reducible refine vIf_f ?_))
        refine again_new (k + 1) (by omega) (by omega) ?_
        rw [obJ_y hjm, gendl]
        (repeat (first | simp (maxSteps := 2000000) (disch := omega) only [go_sem, ↓reduceIte, Nat.reduceEqDiff, Nat.reduceAdd, Nat.reduceMul, Nat.reduceSub, Int.reduceToNat, Int.reduceAdd, Int.reduceSub, Int.reduceMul, Int.reduceNeg] | with_reducible refine vIf_t ?_ | with_reducible refine vIf_f ?_))
      · rw [← gend, obJ_n hjm]
        (repeat (first | simp (maxSteps := 2000000) (disch := omega) only [go_sem, ↓reduceIte, Nat.reduceEqDiff, Nat.reduceAdd, Nat.reduceMul, Nat.reduceSub, Int.reduceToNat, Int.reduceAdd, Int.reduceSub, Int.reduceMul, Int.reduceNeg] | with_reducible refine vIf_t ?_ | with_reducible refine vIf_f ?_))
        refine again_new (k + 1) (by omega) (by omega) ?_
        rw [obJ_n hjm, gendl]
        (repeat (first | simp (maxSteps := 2000000) (disch := omega) only [go_sem, ↓reduceIte, Nat.reduceEqDiff, Nat.reduceAdd, Nat.reduceMul, Nat.reduceSub, Int.reduceToNat, Int.reduceAdd, Int.reduceSub, Int.reduceMul, Int.reduceNeg] | with_reducible refine vIf_t ?_ | with_reducible refine vIf_f ?_))
  · have e : k = 2 ^ n := by
      rcases Nat.lt_or_ge k (2 ^ n) with h | h
      · have := (hs.1 k h).1; omega
      · omega
    subst e
    rw [obJ_y (by simp [sI, hs.2.1]; omega)]
    (repeat (first | simp (maxSteps := 2000000) (disch := omega) only [go_sem, ↓reduceIte, Nat.reduceEqDiff, Nat.reduceAdd, Nat.reduceMul, Nat.reduceSub, Int.reduceToNat, Int.reduceAdd, Int.reduceSub, Int.reduceMul, Int.reduceNeg] | with_reducible refine vIf_t ?_ | with_reducible refine vIf_f ?_))
    (refine retK_of ?_; (repeat (first | simp (maxSteps := 2000000) (disch := omega) only [go_sem, ↓reduceIte, Nat.reduceEqDiff, Nat.reduceAdd, Nat.reduceMul, Nat.reduceSub, Int.reduceToNat, Int.reduceAdd, Int.reduceSub, Int.reduceMul, Int.reduceNeg] | with_reducible refine vIf_t ?_ | with_reducible refine vIf_f ?_)))
    rw [hs.2.1]
theorem first_all : ((List.range 9).all fun n => ((subs n (2 ^ n)).getD 0 [1]).isEmpty) = true := by kernel_rfl
theorem wn_nil {xs : List Int} (g : Cx xs) : wnB xs [] = false := by
  have h0 := g.pos
  have e : mand xs [] = 0 := rfl
  unfold wnB
  rw [e, decide_eq_false]
  rw [show IntKind.wrap .i64 (2 * 0) = 0 from rfl]
  omega
theorem BsI.one {xs : List Int} (g : Cx xs) {j : Nat} {m : Int} (h : BsI xs (sI (subs xs.length (2 ^ xs.length))) j m) : 1 ≤ j := by
  rcases Nat.eq_zero_or_pos j with h0 | h0
  · have h1 := List.all_eq_true.1 first_all xs.length (List.mem_range.2 (by have := g.n8; omega))
    have h2 := h.hw
    have hj := h.hj
    rw [h0] at h2 hj
    have e : gr (sI (subs xs.length (2 ^ xs.length))) 0 = [] := by
      generalize subs xs.length (2 ^ xs.length) = L at *
      cases L with
      | nil => rfl
      | cons a r =>
        have : a = [] := by simpa using h1
        subst this
        rfl
    rw [e, wn_nil g] at h2; cases h2
  · exact h0
def bsV (j : Nat) (n : Nat) (x : Nat × List Int × Int) : V := if x.1 ≤ j then .sl x.2.1.length (ints x.2.1) else V.ref 2 0 n
set_option maxRecDepth 100000 in
set_option maxHeartbeats 8000000 in
theorem closestO_ok (xs : List Int) (hok : okV xs 60 = true) (j : Nat) (m : Int) (hB : BsI xs (sI (subs xs.length (2 ^ xs.length))) j m) : ACalls Try.prog 6 [iS xs] [] (fun r o => r = .tup [.ref 0 0 (gr (sI (subs xs.length (2 ^ xs.length))) j).length, I m, I 0] ∧ o = [oI (gr (sI (subs xs.length (2 ^ xs.length))) j)]) := by
  refine ACalls.of_vc Try.func6 rfl (by decide) 43 rfl [.tmp 2, .tmp 3, .tmp 4] rfl (by simp) ?_
  have g := Cx.of hok
  obtain ⟨g1, g2, g3, g4, g5⟩ := okV_sum (by omega) hok
  obtain ⟨p1, p2, p3⟩ := pow2_le xs.length g3
  have hj1 := hB.one g
  have hlq0 : (sI (subs xs.length (2 ^ xs.length))).length = 2 ^ xs.length := by simp [sI, (subs_ok xs.length g3).2.1]
  have ham := am_ok xs (by omega)
  have hsz := size_ok (ints xs) xs.length
  have hjl := hB.hj
  have hsub := subsetsJ_ok xs.length g3 j hj1 (by omega)
  have hmem := subs_rows g3 (xs := xs)
  unfold iS at ham ⊢
  (repeat (first | simp (maxSteps := 2000000) (disch := omega) only [go_sem, ↓reduceIte, Nat.reduceEqDiff, Nat.reduceAdd, Nat.reduceMul, Nat.reduceSub, Int.reduceToNat, Int.reduceAdd, Int.reduceSub, Int.reduceMul, Int.reduceNeg] | with_reducible refine vIf_t ?_ | with_reducible refine vIf_f ?_))
  (refine vCallX_of ?_; (repeat (first | simp (maxSteps := 2000000) (disch := omega) only [go_sem, ↓reduceIte, Nat.reduceEqDiff, Nat.reduceAdd, Nat.reduceMul, Nat.reduceSub, Int.reduceToNat, Int.reduceAdd, Int.reduceSub, Int.reduceMul, Int.reduceNeg] | with_reducible refine vIf_t ?_ | with_reducible refine vIf_f ?_)); refine vCall_eq (ham) (by simp (disch := omega) only [go_sem, Nat.reduceAdd]) rfl (by first | exact Or.inl rfl | exact Or.inr ⟨rfl, rfl⟩ | (apply Or.inr; simp only [go_sem])) ?_; (repeat (first | simp (maxSteps := 2000000) (disch := omega) only [go_sem, ↓reduceIte, Nat.reduceEqDiff, Nat.reduceAdd, Nat.reduceMul, Nat.reduceSub, Int.reduceToNat, Int.reduceAdd, Int.reduceSub, Int.reduceMul, Int.reduceNeg] | with_reducible refine vIf_t ?_ | with_reducible refine vIf_f ?_)))
  (repeat (first | simp (maxSteps := 2000000) (disch := omega) only [go_sem, ↓reduceIte, Nat.reduceEqDiff, Nat.reduceAdd, Nat.reduceMul, Nat.reduceSub, Int.reduceToNat, Int.reduceAdd, Int.reduceSub, Int.reduceMul, Int.reduceNeg, hok] | with_reducible refine vIf_t ?_ | with_reducible refine vIf_f ?_))
  (refine vCallX_of ?_; (repeat (first | simp (maxSteps := 2000000) (disch := omega) only [go_sem, ↓reduceIte, Nat.reduceEqDiff, Nat.reduceAdd, Nat.reduceMul, Nat.reduceSub, Int.reduceToNat, Int.reduceAdd, Int.reduceSub, Int.reduceMul, Int.reduceNeg] | with_reducible refine vIf_t ?_ | with_reducible refine vIf_f ?_)); refine vCall_eq (hsz) (by simp (disch := omega) only [go_sem, Nat.reduceAdd]) rfl (by first | exact Or.inl rfl | exact Or.inr ⟨rfl, rfl⟩ | (apply Or.inr; simp only [go_sem])) ?_; (repeat (first | simp (maxSteps := 2000000) (disch := omega) only [go_sem, ↓reduceIte, Nat.reduceEqDiff, Nat.reduceAdd, Nat.reduceMul, Nat.reduceSub, Int.reduceToNat, Int.reduceAdd, Int.reduceSub, Int.reduceMul, Int.reduceNeg] | with_reducible refine vIf_t ?_ | with_reducible refine vIf_f ?_)))
  (refine vCallX_of ?_; (repeat (first | simp (maxSteps := 2000000) (disch := omega) only [go_sem, ↓reduceIte, Nat.reduceEqDiff, Nat.reduceAdd, Nat.reduceMul, Nat.reduceSub, Int.reduceToNat, Int.reduceAdd, Int.reduceSub, Int.reduceMul, Int.reduceNeg] | with_reducible refine vIf_t ?_ | with_reducible refine vIf_f ?_)); refine vCall_eq (hsub) (by simp (disch := omega) only [go_sem, Nat.reduceAdd]) rfl (by first | exact Or.inl rfl | exact Or.inr ⟨rfl, rfl⟩ | (apply Or.inr; simp only [go_sem])) ?_; (repeat (first | simp (maxSteps := 2000000) (disch := omega) only [go_sem, ↓reduceIte, Nat.reduceEqDiff, Nat.reduceAdd, Nat.reduceMul, Nat.reduceSub, Int.reduceToNat, Int.reduceAdd, Int.reduceSub, Int.reduceMul, Int.reduceNeg] | with_reducible refine vIf_t ?_ | with_reducible refine vIf_f ?_)))
  have hm0 : 0 ≤ m := by
    have := hB.hm
    rw [← this]
    obtain ⟨f, hf⟩ := rowI_sel g3 (s := gr (sI (subs xs.length (2 ^ xs.length))) j) (gr_memI _ _ hB.hj)
    rw [hf, mand_sel g]
    exact (sF_bd g _ _).1
  generalize sI (subs xs.length (2 ^ xs.length)) = L at hB hmem hlq0 hjl ⊢
  rw [← hlq0] at p1 ⊢
  refine vcLoop_inv_frz (fun x : Nat × List Int × Int => x.1 ≤ L.length ∧ (x.1 ≤ j → x.2.2 = -1 ∨ m < x.2.2) ∧ (j < x.1 → x.2.2 = m)) (fun x => ⟨43, 0, [(19, I x.1), (18, I L.length), (17, .ref 1 0 L.length), (0, iS xs), (5, bsV j (gr L j).length x), (6, I x.2.2)], [none, some ⟨1, rwt L j 2⟩, oI (gr L j)]⟩) (fun x => L.length - x.1) (0, [], -1) (.step 0 _ rfl (by (repeat (first | simp (maxSteps := 2000000) (disch := omega) only [go_sem, ↓reduceIte, Nat.reduceEqDiff, Nat.reduceAdd, Nat.reduceMul, Nat.reduceSub, Int.reduceToNat, Int.reduceAdd, Int.reduceSub, Int.reduceMul, Int.reduceNeg] | with_reducible refine vIf_t ?_ | with_reducible refine vIf_f ?_))) (.refl _)) ⟨by simp, fun _ => .inl rfl, fun h => by simp only at h; omega⟩ (by (repeat (first | simp (maxSteps := 2000000) (disch := omega) only [go_sem, ↓reduceIte, Nat.reduceEqDiff, Nat.reduceAdd, Nat.reduceMul, Nat.reduceSub, Int.reduceToNat, Int.reduceAdd, Int.reduceSub, Int.reduceMul, Int.reduceNeg, iS, bsV] | with_reducible refine vIf_t ?_ | with_reducible refine vIf_f ?_)); all_goals (try simp)) ?_
  rintro ⟨k, b, s⟩ ⟨hk, hs1, hs2⟩
  simp only at hk hs1 hs2
  unfold iS
  (repeat (first | simp (maxSteps := 2000000) (disch := omega) only [go_sem, ↓reduceIte, Nat.reduceEqDiff, Nat.reduceAdd, Nat.reduceMul, Nat.reduceSub, Int.reduceToNat, Int.reduceAdd, Int.reduceSub, Int.reduceMul, Int.reduceNeg] | with_reducible refine vIf_t ?_ | with_reducible refine vIf_f ?_))
  refine vIf_dec (fun hc => ?_) (fun hc => ?_)
  · have hkl : k < L.length := by omega
    obtain ⟨m1, m2⟩ := hmem k hkl
    have hwn := wins_ok xs (gr L k) (by omega) (by omega) m2
    have hmn := mand_ok xs (gr L k) (by omega) (by omega) m2
    have hwd : wnB xs (gr L k) = decide (wsum xs < IntKind.wrap .i64 (2 * mand xs (gr L k))) := rfl
    rw [← hwd] at hwn
    unfold iS at hwn hmn
    by_cases hkj : k = j
    · have e1 := hB.hm
      have e2 := hB.hw
      rw [hkj] at hwn hmn m1
      rw [e1] at hmn
      rw [e2] at hwn
      have hb1 : bsV j (gr L j).length (k, b, s) = .sl b.length (ints b) := if_pos (by simp only; omega)
      have hb2 : bsV j (gr L j).length (k + 1, ([] : List Int), m) = V.ref 2 0 (gr L j).length := if_neg (by simp only; omega)
      rw [hb1]
      (repeat (first | simp (maxSteps := 2000000) (disch := omega) only [go_sem, ↓reduceIte, Nat.reduceEqDiff, Nat.reduceAdd, Nat.reduceMul, Nat.reduceSub, Int.reduceToNat, Int.reduceAdd, Int.reduceSub, Int.reduceMul, Int.reduceNeg, vAt_rwt_at L j 2 k hjl hkj] | with_reducible refine vIf_t ?_ | with_reducible refine vIf_f ?_))
      (refine vCallX_of ?_; (repeat (first | simp (maxSteps := 2000000) (disch := omega) only [go_sem, ↓reduceIte, Nat.reduceEqDiff, Nat.reduceAdd, Nat.reduceMul, Nat.reduceSub, Int.reduceToNat, Int.reduceAdd, Int.reduceSub, Int.reduceMul, Int.reduceNeg] | with_reducible refine vIf_t ?_ | with_reducible refine vIf_f ?_)); refine vCall_eq (hmn) (by simp (disch := omega) only [go_sem, Nat.reduceAdd]) rfl (by first | exact Or.inl rfl | exact Or.inr ⟨rfl, rfl⟩ | (apply Or.inr; simp only [go_sem])) ?_; (repeat (first | simp (maxSteps := 2000000) (disch := omega) only [go_sem, ↓reduceIte, Nat.reduceEqDiff, Nat.reduceAdd, Nat.reduceMul, Nat.reduceSub, Int.reduceToNat, Int.reduceAdd, Int.reduceSub, Int.reduceMul, Int.reduceNeg] | with_reducible refine vIf_t ?_ | with_reducible refine vIf_f ?_)))
      (refine vCallX_of ?_; (repeat (first | simp (maxSteps := 2000000) (disch := omega) only [go_sem, ↓reduceIte, Nat.reduceEqDiff, Nat.reduceAdd, Nat.reduceMul, Nat.reduceSub, Int.reduceToNat, Int.reduceAdd, Int.reduceSub, Int.reduceMul, Int.reduceNeg] | with_reducible refine vIf_t ?_ | with_reducible refine vIf_f ?_)); refine vCall_eq (hwn) (by simp (disch := omega) only [go_sem, Nat.reduceAdd]) rfl (by first | exact Or.inl rfl | exact Or.inr ⟨rfl, rfl⟩ | (apply Or.inr; simp only [go_sem])) ?_; (repeat (first | simp (maxSteps := 2000000) (disch := omega) only [go_sem, ↓reduceIte, Nat.reduceEqDiff, Nat.reduceAdd, Nat.reduceMul, Nat.reduceSub, Int.reduceToNat, Int.reduceAdd, Int.reduceSub, Int.reduceMul, Int.reduceNeg] | with_reducible refine vIf_t ?_ | with_reducible refine vIf_f ?_)))
      by_cases c1 : s < 0
      · have d1 : decide (s < 0) = true := decide_eq_true c1
        (try (repeat (first | simp (maxSteps := 2000000) (disch := omega) only [go_sem, ↓reduceIte, Nat.reduceEqDiff, Nat.reduceAdd, Nat.reduceMul, Nat.reduceSub, Int.reduceToNat, Int.reduceAdd, Int.reduceSub, Int.reduceMul, Int.reduceNeg, d1] | with_reducible refine vIf_t ?_ | with_reducible refine vIf_f ?_)))
        refine again (k + 1, [], m) ⟨by simp only; omega, fun h => by simp only at h; omega, fun _ => rfl⟩ (by simp only; omega) ?_
        rw [hb2]
        (repeat (first | simp (maxSteps := 2000000) (disch := omega) only [go_sem, ↓reduceIte, Nat.reduceEqDiff, Nat.reduceAdd, Nat.reduceMul, Nat.reduceSub, Int.reduceToNat, Int.reduceAdd, Int.reduceSub, Int.reduceMul, Int.reduceNeg, iS] | with_reducible refine vIf_t ?_ | with_reducible refine vIf_f ?_))
      · have d1 : decide (s < 0) = false := decide_eq_false c1
        have d2 : decide (m < s) = true := decide_eq_true (by have := hs1 (by omega); omega)
        (try (repeat (first | simp (maxSteps := 2000000) (disch := omega) only [go_sem, ↓reduceIte, Nat.reduceEqDiff, Nat.reduceAdd, Nat.reduceMul, Nat.reduceSub, Int.reduceToNat, Int.reduceAdd, Int.reduceSub, Int.reduceMul, Int.reduceNeg, d1, d2] | with_reducible refine vIf_t ?_ | with_reducible refine vIf_f ?_)))
        refine again (k + 1, [], m) ⟨by simp only; omega, fun h => by simp only at h; omega, fun _ => rfl⟩ (by simp only; omega) ?_
        rw [hb2]
        (repeat (first | simp (maxSteps := 2000000) (disch := omega) only [go_sem, ↓reduceIte, Nat.reduceEqDiff, Nat.reduceAdd, Nat.reduceMul, Nat.reduceSub, Int.reduceToNat, Int.reduceAdd, Int.reduceSub, Int.reduceMul, Int.reduceNeg, iS] | with_reducible refine vIf_t ?_ | with_reducible refine vIf_f ?_))
    · by_cases hlt : k < j
      · have hb1 : bsV j (gr L j).length (k, b, s) = .sl b.length (ints b) := if_pos (by simp only; omega)
        have hb2 : ∀ b' s', bsV j (gr L j).length (k + 1, b', s') = .sl b'.length (ints b') := fun b' s' => if_pos (by simp only; omega)
        have hgt := hB.hfst k hlt
        rw [hb1]
        (repeat (first | simp (maxSteps := 2000000) (disch := omega) only [go_sem, ↓reduceIte, Nat.reduceEqDiff, Nat.reduceAdd, Nat.reduceMul, Nat.reduceSub, Int.reduceToNat, Int.reduceAdd, Int.reduceSub, Int.reduceMul, Int.reduceNeg, vAt_rwt_ne L j 2 k hjl hkj] | with_reducible refine vIf_t ?_ | with_reducible refine vIf_f ?_))
        (refine vCallX_of ?_; (repeat (first | simp (maxSteps := 2000000) (disch := omega) only [go_sem, ↓reduceIte, Nat.reduceEqDiff, Nat.reduceAdd, Nat.reduceMul, Nat.reduceSub, Int.reduceToNat, Int.reduceAdd, Int.reduceSub, Int.reduceMul, Int.reduceNeg] | with_reducible refine vIf_t ?_ | with_reducible refine vIf_f ?_)); refine vCall_eq (hmn) (by simp (disch := omega) only [go_sem, Nat.reduceAdd]) rfl (by first | exact Or.inl rfl | exact Or.inr ⟨rfl, rfl⟩ | (apply Or.inr; simp only [go_sem])) ?_; (repeat (first | simp (maxSteps := 2000000) (disch := omega) only [go_sem, ↓reduceIte, Nat.reduceEqDiff, Nat.reduceAdd, Nat.reduceMul, Nat.reduceSub, Int.reduceToNat, Int.reduceAdd, Int.reduceSub, Int.reduceMul, Int.reduceNeg] | with_reducible refine vIf_t ?_ | with_reducible refine vIf_f ?_)))
        (refine vCallX_of ?_; (repeat (first | simp (maxSteps := 2000000) (disch := omega) only [go_sem, ↓reduceIte, Nat.reduceEqDiff, Nat.reduceAdd, Nat.reduceMul, Nat.reduceSub, Int.reduceToNat, Int.reduceAdd, Int.reduceSub, Int.reduceMul, Int.reduceNeg] | with_reducible refine vIf_t ?_ | with_reducible refine vIf_f ?_)); refine vCall_eq (hwn) (by simp (disch := omega) only [go_sem, Nat.reduceAdd]) rfl (by first | exact Or.inl rfl | exact Or.inr ⟨rfl, rfl⟩ | (apply Or.inr; simp only [go_sem])) ?_; (repeat (first | simp (maxSteps := 2000000) (disch := omega) only [go_sem, ↓reduceIte, Nat.reduceEqDiff, Nat.reduceAdd, Nat.reduceMul, Nat.reduceSub, Int.reduceToNat, Int.reduceAdd, Int.reduceSub, Int.reduceMul, Int.reduceNeg] | with_reducible refine vIf_t ?_ | with_reducible refine vIf_f ?_)))
        cases hw : wnB xs (gr L k) with
        | false =>
          (try (repeat (first | simp (maxSteps := 2000000) (disch := omega) only [go_sem, ↓reduceIte, Nat.reduceEqDiff, Nat.reduceAdd, Nat.reduceMul, Nat.reduceSub, Int.reduceToNat, Int.reduceAdd, Int.reduceSub, Int.reduceMul, Int.reduceNeg, hw] | with_reducible refine vIf_t ?_ | with_reducible refine vIf_f ?_)))
          refine again (k + 1, b, s) ⟨by simp only; omega, fun _ => hs1 (by omega), fun h => by simp only at h; omega⟩ (by simp only; omega) ?_
          rw [hb2]
          (repeat (first | simp (maxSteps := 2000000) (disch := omega) only [go_sem, ↓reduceIte, Nat.reduceEqDiff, Nat.reduceAdd, Nat.reduceMul, Nat.reduceSub, Int.reduceToNat, Int.reduceAdd, Int.reduceSub, Int.reduceMul, Int.reduceNeg, iS] | with_reducible refine vIf_t ?_ | with_reducible refine vIf_f ?_))
        | true =>
          have hgt := hgt hw
          (try (repeat (first | simp (maxSteps := 2000000) (disch := omega) only [go_sem, ↓reduceIte, Nat.reduceEqDiff, Nat.reduceAdd, Nat.reduceMul, Nat.reduceSub, Int.reduceToNat, Int.reduceAdd, Int.reduceSub, Int.reduceMul, Int.reduceNeg, hw] | with_reducible refine vIf_t ?_ | with_reducible refine vIf_f ?_)))
          by_cases c1 : s < 0
          · have d1 : decide (s < 0) = true := decide_eq_true c1
            (try (repeat (first | simp (maxSteps := 2000000) (disch := omega) only [go_sem, ↓reduceIte, Nat.reduceEqDiff, Nat.reduceAdd, Nat.reduceMul, Nat.reduceSub, Int.reduceToNat, Int.reduceAdd, Int.reduceSub, Int.reduceMul, Int.reduceNeg, d1] | with_reducible refine vIf_t ?_ | with_reducible refine vIf_f ?_)))
            refine again (k + 1, gr L k, mand xs (gr L k)) ⟨by simp only; omega, fun _ => .inr hgt, fun h => by simp only at h; omega⟩ (by simp only; omega) ?_
            rw [hb2]
            (repeat (first | simp (maxSteps := 2000000) (disch := omega) only [go_sem, ↓reduceIte, Nat.reduceEqDiff, Nat.reduceAdd, Nat.reduceMul, Nat.reduceSub, Int.reduceToNat, Int.reduceAdd, Int.reduceSub, Int.reduceMul, Int.reduceNeg, iS] | with_reducible refine vIf_t ?_ | with_reducible refine vIf_f ?_))
          · have d1 : decide (s < 0) = false := decide_eq_false c1
            by_cases c2 : mand xs (gr L k) < s
            · have d2 : decide (mand xs (gr L k) < s) = true := decide_eq_true c2
              (try (repeat (first | simp (maxSteps := 2000000) (disch := omega) only [go_sem, ↓reduceIte, Nat.reduceEqDiff, Nat.reduceAdd, Nat.reduceMul, Nat.reduceSub, Int.reduceToNat, Int.reduceAdd, Int.reduceSub, Int.reduceMul, Int.reduceNeg, d1, d2] | with_reducible refine vIf_t ?_ | with_reducible refine vIf_f ?_)))
              refine again (k + 1, gr L k, mand xs (gr L k)) ⟨by simp only; omega, fun _ => .inr hgt, fun h => by simp only at h; omega⟩ (by simp only; omega) ?_
              rw [hb2]
              (repeat (first | simp (maxSteps := 2000000) (disch := omega) only [go_sem, ↓reduceIte, Nat.reduceEqDiff, Nat.reduceAdd, Nat.reduceMul, Nat.reduceSub, Int.reduceToNat, Int.reduceAdd, Int.reduceSub, Int.reduceMul, Int.reduceNeg, iS] | with_reducible refine vIf_t ?_ | with_reducible refine vIf_f ?_))
            · have d2 : decide (mand xs (gr L k) < s) = false := decide_eq_false c2
              (try (repeat (first | simp (maxSteps := 2000000) (disch := omega) only [go_sem, ↓reduceIte, Nat.reduceEqDiff, Nat.reduceAdd, Nat.reduceMul, Nat.reduceSub, Int.reduceToNat, Int.reduceAdd, Int.reduceSub, Int.reduceMul, Int.reduceNeg, d1, d2] | with_reducible refine vIf_t ?_ | with_reducible refine vIf_f ?_)))
              refine again (k + 1, b, s) ⟨by simp only; omega, fun _ => hs1 (by omega), fun h => by simp only at h; omega⟩ (by simp only; omega) ?_
              rw [hb2]
              (repeat (first | simp (maxSteps := 2000000) (disch := omega) only [go_sem, ↓reduceIte, Nat.reduceEqDiff, Nat.reduceAdd, Nat.reduceMul, Nat.reduceSub, Int.reduceToNat, Int.reduceAdd, Int.reduceSub, Int.reduceMul, Int.reduceNeg, iS] | with_reducible refine vIf_t ?_ | with_reducible refine vIf_f ?_))
      · have hb1 : bsV j (gr L j).length (k, b, s) = V.ref 2 0 (gr L j).length := if_neg (by simp only; omega)
        have hb2 : bsV j (gr L j).length (k + 1, b, s) = V.ref 2 0 (gr L j).length := if_neg (by simp only; omega)
        have hsm := hs2 (by omega)
        have hle := hB.hle k hkl
        have d1 : decide (s < 0) = false := decide_eq_false (by omega)
        rw [hb1]
        (repeat (first | simp (maxSteps := 2000000) (disch := omega) only [go_sem, ↓reduceIte, Nat.reduceEqDiff, Nat.reduceAdd, Nat.reduceMul, Nat.reduceSub, Int.reduceToNat, Int.reduceAdd, Int.reduceSub, Int.reduceMul, Int.reduceNeg, vAt_rwt_ne L j 2 k hjl hkj] | with_reducible refine vIf_t ?_ | with_reducible refine vIf_f ?_))
        (refine vCallX_of ?_; (repeat (first | simp (maxSteps := 2000000) (disch := omega) only [go_sem, ↓reduceIte, Nat.reduceEqDiff, Nat.reduceAdd, Nat.reduceMul, Nat.reduceSub, Int.reduceToNat, Int.reduceAdd, Int.reduceSub, Int.reduceMul, Int.reduceNeg] | with_reducible refine vIf_t ?_ | with_reducible refine vIf_f ?_)); refine vCall_eq (hmn) (by simp (disch := omega) only [go_sem, Nat.reduceAdd]) rfl (by first | exact Or.inl rfl | exact Or.inr ⟨rfl, rfl⟩ | (apply Or.inr; simp only [go_sem])) ?_; (repeat (first | simp (maxSteps := 2000000) (disch := omega) only [go_sem, ↓reduceIte, Nat.reduceEqDiff, Nat.reduceAdd, Nat.reduceMul, Nat.reduceSub, Int.reduceToNat, Int.reduceAdd, Int.reduceSub, Int.reduceMul, Int.reduceNeg] | with_reducible refine vIf_t ?_ | with_reducible refine vIf_f ?_)))
        (refine vCallX_of ?_; (repeat (first | simp (maxSteps := 2000000) (disch := omega) only [go_sem, ↓reduceIte, Nat.reduceEqDiff, Nat.reduceAdd, Nat.reduceMul, Nat.reduceSub, Int.reduceToNat, Int.reduceAdd, Int.reduceSub, Int.reduceMul, Int.reduceNeg] | with_reducible refine vIf_t ?_ | with_reducible refine vIf_f ?_)); refine vCall_eq (hwn) (by simp (disch := omega) only [go_sem, Nat.reduceAdd]) rfl (by first | exact Or.inl rfl | exact Or.inr ⟨rfl, rfl⟩ | (apply Or.inr; simp only [go_sem])) ?_; (repeat (first | simp (maxSteps := 2000000) (disch := omega) only [go_sem, ↓reduceIte, Nat.reduceEqDiff, Nat.reduceAdd, Nat.reduceMul, Nat.reduceSub, Int.reduceToNat, Int.reduceAdd, Int.reduceSub, Int.reduceMul, Int.reduceNeg] | with_reducible refine vIf_t ?_ | with_reducible refine vIf_f ?_)))
        cases hw : wnB xs (gr L k) with
        | false =>
          (try (repeat (first | simp (maxSteps := 2000000) (disch := omega) only [go_sem, ↓reduceIte, Nat.reduceEqDiff, Nat.reduceAdd, Nat.reduceMul, Nat.reduceSub, Int.reduceToNat, Int.reduceAdd, Int.reduceSub, Int.reduceMul, Int.reduceNeg, hw] | with_reducible refine vIf_t ?_ | with_reducible refine vIf_f ?_)))
          refine again (k + 1, b, s) ⟨by simp only; omega, fun h => by simp only at h; omega, fun _ => hsm⟩ (by simp only; omega) ?_
          rw [hb2]
          (repeat (first | simp (maxSteps := 2000000) (disch := omega) only [go_sem, ↓reduceIte, Nat.reduceEqDiff, Nat.reduceAdd, Nat.reduceMul, Nat.reduceSub, Int.reduceToNat, Int.reduceAdd, Int.reduceSub, Int.reduceMul, Int.reduceNeg, iS] | with_reducible refine vIf_t ?_ | with_reducible refine vIf_f ?_))
        | true =>
          have hle := hle hw
          have d2 : decide (mand xs (gr L k) < s) = false := decide_eq_false (by omega)
          (try (repeat (first | simp (maxSteps := 2000000) (disch := omega) only [go_sem, ↓reduceIte, Nat.reduceEqDiff, Nat.reduceAdd, Nat.reduceMul, Nat.reduceSub, Int.reduceToNat, Int.reduceAdd, Int.reduceSub, Int.reduceMul, Int.reduceNeg, hw, d1, d2] | with_reducible refine vIf_t ?_ | with_reducible refine vIf_f ?_)))
          refine again (k + 1, b, s) ⟨by simp only; omega, fun h => by simp only at h; omega, fun _ => hsm⟩ (by simp only; omega) ?_
          rw [hb2]
          (repeat (first | simp (maxSteps := 2000000) (disch := omega) only [go_sem, ↓reduceIte, Nat.reduceEqDiff, Nat.reduceAdd, Nat.reduceMul, Nat.reduceSub, Int.reduceToNat, Int.reduceAdd, Int.reduceSub, Int.reduceMul, Int.reduceNeg, iS] | with_reducible refine vIf_t ?_ | with_reducible refine vIf_f ?_))
  · have e : k = L.length := by omega
    have hb1 : bsV j (gr L j).length (k, b, s) = V.ref 2 0 (gr L j).length := if_neg (by simp only; omega)
    have hsm := hs2 (by omega)
    rw [hb1, hsm]
    (repeat (first | simp (maxSteps := 2000000) (disch := omega) only [go_sem, ↓reduceIte, Nat.reduceEqDiff, Nat.reduceAdd, Nat.reduceMul, Nat.reduceSub, Int.reduceToNat, Int.reduceAdd, Int.reduceSub, Int.reduceMul, Int.reduceNeg] | with_reducible refine vIf_t ?_ | with_reducible refine vIf_f ?_))
    (refine retK_of ?_; (repeat (first | simp (maxSteps := 2000000) (disch := omega) only [go_sem, ↓reduceIte, Nat.reduceEqDiff, Nat.reduceAdd, Nat.reduceMul, Nat.reduceSub, Int.reduceToNat, Int.reduceAdd, Int.reduceSub, Int.reduceMul, Int.reduceNeg] | with_reducible refine vIf_t ?_ | with_reducible refine vIf_f ?_)))
    try rfl
theorem closestN_ok (xs : List Int) (hx : xs.length ≤ 10000000) (hok : okV xs 60 = false) : ACalls Try.prog 6 [iS xs] [] (fun r o => r = .tup [.ref 0 0 0, I 0, I 1] ∧ o = [oI []]) := by
  refine ACalls.of_vc Try.func6 rfl (by decide) 43 rfl [.tmp 2, .tmp 3, .tmp 4] rfl (by simp) ?_
  have ham := am_ok xs hx
  rw [hok] at ham
  (repeat (first | simp (maxSteps := 2000000) (disch := omega) only [go_sem, ↓reduceIte, Nat.reduceEqDiff, Nat.reduceAdd, Nat.reduceMul, Nat.reduceSub, Int.reduceToNat, Int.reduceAdd, Int.reduceSub, Int.reduceMul, Int.reduceNeg] | with_reducible refine vIf_t ?_ | with_reducible refine vIf_f ?_))
  (refine vCallX_of ?_; (repeat (first | simp (maxSteps := 2000000) (disch := omega) only [go_sem, ↓reduceIte, Nat.reduceEqDiff, Nat.reduceAdd, Nat.reduceMul, Nat.reduceSub, Int.reduceToNat, Int.reduceAdd, Int.reduceSub, Int.reduceMul, Int.reduceNeg] | with_reducible refine vIf_t ?_ | with_reducible refine vIf_f ?_)); refine vCall_eq (ham) (by simp (disch := omega) only [go_sem, Nat.reduceAdd]) rfl (by first | exact Or.inl rfl | exact Or.inr ⟨rfl, rfl⟩ | (apply Or.inr; simp only [go_sem])) ?_; (repeat (first | simp (maxSteps := 2000000) (disch := omega) only [go_sem, ↓reduceIte, Nat.reduceEqDiff, Nat.reduceAdd, Nat.reduceMul, Nat.reduceSub, Int.reduceToNat, Int.reduceAdd, Int.reduceSub, Int.reduceMul, Int.reduceNeg] | with_reducible refine vIf_t ?_ | with_reducible refine vIf_f ?_)))
  (refine retK_of ?_; (repeat (first | simp (maxSteps := 2000000) (disch := omega) only [go_sem, ↓reduceIte, Nat.reduceEqDiff, Nat.reduceAdd, Nat.reduceMul, Nat.reduceSub, Int.reduceToNat, Int.reduceAdd, Int.reduceSub, Int.reduceMul, Int.reduceNeg] | with_reducible refine vIf_t ?_ | with_reducible refine vIf_f ?_)))
  try rfl
end Go.Proofs.Ytpjjjonplikilaa

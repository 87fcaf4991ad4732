/- words: splitting, names, names of codes -/
import Derived.Test.YtilocioajpcoiaaDoorT8
import Derived.Test.YtilocioajpcoiaaDoorRepl
import Derived.Test.YtilocioajpcoiaaDoorRowT
import Derived.Test.YtilocioajpcoiaaDoorX3
import Derived.Test.YtilocioajpcoiaaDoorX2
import Derived.Lib.Split
set_option linter.unusedVariables false
set_option linter.unusedSimpArgs false
namespace Go.Proofs.YtilocioajpcoiaaDoor
open Go.AG Go.Lib Go.RowKit

theorem splitK_splB (c : UInt8) : ∀ (n : Nat) (l : List UInt8), l.length ≤ n → splitK [c] 0 (count l [c]) l = splB c l []
  | n, l, h => by
    by_cases hm : c ∈ l
    · obtain ⟨a, r, rfl, ha⟩ := List.eq_append_cons_of_mem hm
      cases n with
      | zero => simp at h
      | succ n =>
        have ih := splitK_splB c n r (by simp at h; omega)
        have hi := index_at c r a ha
        rw [count_at c a r ha, Nat.add_comm, splitK, if_neg (by rw [hi]; simp), hi, splB_free c a (c :: r) [] ha]
        simp only [Int.toNat_natCast, Nat.add_zero, List.nil_append, splB, if_true, List.length_cons, List.length_nil, Nat.zero_add]
        rw [List.take_left, show (a ++ c :: r).drop (a.length + 1) = r by rw [← List.drop_drop, List.drop_left]; rfl, ih]
    · rw [count_free c l hm]
      have := splB_free c l [] [] hm
      simp only [List.append_nil, List.nil_append] at this
      rw [this]; rfl
theorem split_ok (l : List UInt8) (c : UInt8) (hl : l.length ≤ 1000000) : ACalls Tryd.prog 60 [St (tx l), St (tx [c])] [] (fun r o => r = .sl (splB c l []).length (strs ((splB c l []).map tx)) ∧ o = []) := by
  refine ACalls.lib (Q := fun r => r = .sl (splB c l []).length (strs ((splB c l []).map tx))) (vals := [.string (tx l), .string (tx [c])]) ⟨_, Tryd.func60, by kernel_rfl, rfl⟩ rfl fun w X hL hX => ?_
  obtain ⟨m, hm⟩ := maxLen_of hL (by kernel_rfl)
  have h1 : (tx [c]).size = 1 := rfl
  have h2 : (tx l).size = l.length := tx_size l
  refine (Tryd.strings_Split (tx l) (tx [c]) m w (by omega) hm (by omega)).mono ?_
  have hd := splitB_data (tx [c]) 0 (countB (tx l) (tx [c])) (tx l)
  rw [show countB (tx l) (tx [c]) = count l [c] from rfl, show (tx [c]).data.toList = [c] from rfl, show (tx l).data.toList = l from rfl, splitK_splB c l.length l (Nat.le_refl _)] at hd
  have hS : splitB (tx [c]) 0 (count l [c]) (tx l) = (splB c l []).map tx := by
    rw [← hd, List.map_map]
    refine (List.map_id _).symm.trans (List.map_congr_left fun x _ => ?_)
    exact (tx_list x).symm
  rintro e w' ⟨rfl, rfl⟩
  rw [show countB (tx l) (tx [c]) = count l [c] from rfl, hS]
  have hlen : count l [c] + 1 = ((splB c l []).map tx).length := by rw [← hS]; exact (splitB_all (tx [c]) (by omega) 0 _ (tx l) rfl).symm
  refine ⟨_, _, rfl, rfl, (Below.refl _ w).alloc (Nat.le_refl _) _, fun Y ρ hY => .d ?_⟩
  have := rep_strs (w := w.alloc (.cells (((splB c l []).map tx).map Value.string).toArray 9)) (A := w.heap.size) (n := count l [c] + 1) (X' := Y) (ss := (splB c l []).map tx) hlen (fun i hi => ?_) (fun h => by have := hY _ h; omega)
  · rw [hlen, List.length_map] at this ⊢
    exact this
  · rw [World.cell?_alloc_at _ _ _ _ rfl]
    have hi2 : i < (splB c l []).length := by simpa using hi
    simp [hi2]
/-- the words -/
def wdL (l : List UInt8) : List (List UInt8) := (splB 32 l []).filter fun w => !w.isEmpty
theorem wd_take (L : List (List UInt8)) (k : Nat) (h : k < L.length) : (L.take (k + 1)).filter (fun w => !w.isEmpty) = if (L[k]).isEmpty = true then (L.take k).filter (fun w => !w.isEmpty) else (L.take k).filter (fun w => !w.isEmpty) ++ [L[k]] := by
  rw [List.take_succ_eq_append_getElem h, List.filter_append]
  cases hq : (L[k]).isEmpty <;> simp [hq]
theorem gs_map (L : List (List UInt8)) (k : Nat) (h : k < L.length) : gs (L.map tx) k = tx L[k] := by
  rw [gs_lt _ _ (by simpa using h)]; simp
theorem tx_nb (w : List UInt8) : ((tx w).toList == (tx []).toList) = w.isEmpty := by
  cases w with
  | nil => simp
  | cons a r => rw [tx_bq (by simp)]; rfl
@[local go_sem] theorem mk_txW (l : List UInt8) : ByteArray.mk (List.toArray l) = tx l := rfl
set_option maxHeartbeats 1000000 in
theorem splitWords_ok (l : List UInt8) (hl : l.length ≤ 100000) : ACalls Tryd.prog 24 [St (tx l)] [] (fun r o => r = .ref 0 0 ((wdL l).map tx).length ∧ o = [some ⟨1, strs ((wdL l).map tx)⟩]) := by
  refine ACalls.of_vc Tryd.func24 rfl (by decide) 22 rfl [.tmp 2] rfl (by simp) ?_
  have h1 := split_ok l 32 (by omega)
  have hln := splB_len 32 l []
  unfold wdL
  generalize splB 32 l [] = L at *
  (repeat (first | simp (maxSteps := 2000000) (disch := omega) only [go_sem, ↓reduceIte, Nat.reduceEqDiff, Nat.reduceAdd, Nat.reduceMul, Nat.reduceSub, Int.reduceToNat, Int.reduceAdd, Int.reduceSub, Int.reduceMul, Int.reduceNeg] | with_reducible refine vIf_t ?_ | with_reducible refine vIf_f ?_))
  (refine vCallX_of ?_; (repeat (first | simp (maxSteps := 2000000) (disch := omega) only [go_sem, ↓reduceIte, Nat.reduceEqDiff, Nat.reduceAdd, Nat.reduceMul, Nat.reduceSub, Int.reduceToNat, Int.reduceAdd, Int.reduceSub, Int.reduceMul, Int.reduceNeg] | with_reducible refine vIf_t ?_ | with_reducible refine vIf_f ?_)); refine vCall_eq (h1) (by simp (disch := omega) only [go_sem, Nat.reduceAdd]) rfl (by first | exact Or.inl rfl | exact Or.inr ⟨rfl, rfl⟩ | (apply Or.inr; simp only [go_sem])) ?_; (repeat (first | simp (maxSteps := 2000000) (disch := omega) only [go_sem, ↓reduceIte, Nat.reduceEqDiff, Nat.reduceAdd, Nat.reduceMul, Nat.reduceSub, Int.reduceToNat, Int.reduceAdd, Int.reduceSub, Int.reduceMul, Int.reduceNeg] | with_reducible refine vIf_t ?_ | with_reducible refine vIf_f ?_)))
  refine vcLoop_invF (fun k : Nat => k ≤ L.length) (fun k => ⟨22, 0, [(10, I k), (3, .ref 0 0 (((L.take k).filter fun w => !w.isEmpty).map tx).length), (8, .sl L.length (strs (L.map tx))), (9, I L.length)], [some ⟨1, strs (((L.take k).filter fun w => !w.isEmpty).map tx)⟩]⟩) (fun k => L.length - k) 0 (by omega) (by simp only [List.take_zero, List.filter_nil, List.map_nil, List.length_nil]; (first | (refine leF_s ?_; ((repeat (first | simp (maxSteps := 2000000) (disch := omega) only [go_sem, ↓reduceIte, Nat.reduceEqDiff, Nat.reduceAdd, Nat.reduceMul, Nat.reduceSub, Int.reduceToNat, Int.reduceAdd, Int.reduceSub, Int.reduceMul, Int.reduceNeg] | with_reducible refine vIf_t ?_ | with_reducible refine vIf_f ?_)); all_goals (try simp); all_goals (try omega)); done) | (refine leF_p ?_; ((repeat (first | simp (maxSteps := 2000000) (disch := omega) only [go_sem, ↓reduceIte, Nat.reduceEqDiff, Nat.reduceAdd, Nat.reduceMul, Nat.reduceSub, Int.reduceToNat, Int.reduceAdd, Int.reduceSub, Int.reduceMul, Int.reduceNeg] | with_reducible refine vIf_t ?_ | with_reducible refine vIf_f ?_)); all_goals (try simp); all_goals (try omega)); done))) ?_
  intro k hk
  have hfl := List.length_filter_le (fun w : List UInt8 => !w.isEmpty) (L.take k)
  rw [List.length_take] at hfl
  have hss := fun h => wd_take L k h
  generalize hM : (L.take k).filter (fun w => !w.isEmpty) = M at *
  have hml : (M.map tx).length = M.length := List.length_map ..
  have hLl : (L.map tx).length = L.length := List.length_map ..
  (repeat (first | simp (maxSteps := 2000000) (disch := omega) only [go_sem, ↓reduceIte, Nat.reduceEqDiff, Nat.reduceAdd, Nat.reduceMul, Nat.reduceSub, Int.reduceToNat, Int.reduceAdd, Int.reduceSub, Int.reduceMul, Int.reduceNeg] | with_reducible refine vIf_t ?_ | with_reducible refine vIf_f ?_))
  refine vIf_dec (fun hc => ?_) (fun hc => ?_)
  · have hkl : k < L.length := by omega
    have hg := gs_map L k hkl
    have hs2 := hss hkl
    generalize L[k] = w at *
    (repeat (first | simp (maxSteps := 2000000) (disch := omega) only [go_sem, ↓reduceIte, Nat.reduceEqDiff, Nat.reduceAdd, Nat.reduceMul, Nat.reduceSub, Int.reduceToNat, Int.reduceAdd, Int.reduceSub, Int.reduceMul, Int.reduceNeg, hg, tx_nb] | with_reducible refine vIf_t ?_ | with_reducible refine vIf_f ?_))
    cases he : w.isEmpty with
    | true =>
      rw [if_pos he] at hs2
      (repeat (first | simp (maxSteps := 2000000) (disch := omega) only [go_sem, ↓reduceIte, Nat.reduceEqDiff, Nat.reduceAdd, Nat.reduceMul, Nat.reduceSub, Int.reduceToNat, Int.reduceAdd, Int.reduceSub, Int.reduceMul, Int.reduceNeg, he] | with_reducible refine vIf_t ?_ | with_reducible refine vIf_f ?_))
      refine againF (k + 1) (by omega) (by omega) (by rw [hs2]; (first | (refine leF_s ?_; ((repeat (first | simp (maxSteps := 2000000) (disch := omega) only [go_sem, ↓reduceIte, Nat.reduceEqDiff, Nat.reduceAdd, Nat.reduceMul, Nat.reduceSub, Int.reduceToNat, Int.reduceAdd, Int.reduceSub, Int.reduceMul, Int.reduceNeg] | with_reducible refine vIf_t ?_ | with_reducible refine vIf_f ?_)); all_goals (try simp); all_goals (try omega)); done) | (refine leF_p ?_; ((repeat (first | simp (maxSteps := 2000000) (disch := omega) only [go_sem, ↓reduceIte, Nat.reduceEqDiff, Nat.reduceAdd, Nat.reduceMul, Nat.reduceSub, Int.reduceToNat, Int.reduceAdd, Int.reduceSub, Int.reduceMul, Int.reduceNeg] | with_reducible refine vIf_t ?_ | with_reducible refine vIf_f ?_)); all_goals (try simp); all_goals (try omega)); done)))
    | false =>
      rw [if_neg (by rw [he]; simp)] at hs2
      have hap : M.map tx ++ [tx w] = (M ++ [w]).map tx := by simp
      (repeat (first | simp (maxSteps := 2000000) (disch := omega) only [go_sem, ↓reduceIte, Nat.reduceEqDiff, Nat.reduceAdd, Nat.reduceMul, Nat.reduceSub, Int.reduceToNat, Int.reduceAdd, Int.reduceSub, Int.reduceMul, Int.reduceNeg, he] | with_reducible refine vIf_t ?_ | with_reducible refine vIf_f ?_))
      refine againF (k + 1) (by omega) (by omega) ?_
      rw [hs2, ← hap]
      (first | (refine leF_s ?_; ((repeat (first | simp (maxSteps := 2000000) (disch := omega) only [go_sem, ↓reduceIte, Nat.reduceEqDiff, Nat.reduceAdd, Nat.reduceMul, Nat.reduceSub, Int.reduceToNat, Int.reduceAdd, Int.reduceSub, Int.reduceMul, Int.reduceNeg] | with_reducible refine vIf_t ?_ | with_reducible refine vIf_f ?_)); all_goals (try simp); all_goals (try omega)); done) | (refine leF_p ?_; ((repeat (first | simp (maxSteps := 2000000) (disch := omega) only [go_sem, ↓reduceIte, Nat.reduceEqDiff, Nat.reduceAdd, Nat.reduceMul, Nat.reduceSub, Int.reduceToNat, Int.reduceAdd, Int.reduceSub, Int.reduceMul, Int.reduceNeg] | with_reducible refine vIf_t ?_ | with_reducible refine vIf_f ?_)); all_goals (try simp); all_goals (try omega)); done))
  · have ek : k = L.length := by omega
    subst ek
    rw [List.take_length] at hM
    (repeat (first | simp (maxSteps := 2000000) (disch := omega) only [go_sem, ↓reduceIte, Nat.reduceEqDiff, Nat.reduceAdd, Nat.reduceMul, Nat.reduceSub, Int.reduceToNat, Int.reduceAdd, Int.reduceSub, Int.reduceMul, Int.reduceNeg] | with_reducible refine vIf_t ?_ | with_reducible refine vIf_f ?_))
    (refine retK_of ?_; (repeat (first | simp (maxSteps := 2000000) (disch := omega) only [go_sem, ↓reduceIte, Nat.reduceEqDiff, Nat.reduceAdd, Nat.reduceMul, Nat.reduceSub, Int.reduceToNat, Int.reduceAdd, Int.reduceSub, Int.reduceMul, Int.reduceNeg] | with_reducible refine vIf_t ?_ | with_reducible refine vIf_f ?_)))
    rw [hM]
    exact ⟨rfl, rfl⟩
set_option maxHeartbeats 1000000 in
theorem splitWordsS_ok (l : List UInt8) (hl : l.length ≤ 100000) : ACalls Tryd.prog 29 [St (tx l)] [] (fun r o => r = .ref 0 0 ((wdL l).map tx).length ∧ o = [some ⟨1, strs ((wdL l).map tx)⟩]) := by
  refine ACalls.of_vc Tryd.func29 rfl (by decide) 28 rfl [.tmp 2] rfl (by simp) ?_
  have h1 := l01Split_ok l 32 hl
  have hln := splB_len 32 l []
  unfold wdL
  rw [show ((32 : UInt8).toNat : Int) = 32 from rfl] at h1
  generalize splB 32 l [] = L at *
  (repeat (first | simp (maxSteps := 2000000) (disch := omega) only [go_sem, ↓reduceIte, Nat.reduceEqDiff, Nat.reduceAdd, Nat.reduceMul, Nat.reduceSub, Int.reduceToNat, Int.reduceAdd, Int.reduceSub, Int.reduceMul, Int.reduceNeg] | with_reducible refine vIf_t ?_ | with_reducible refine vIf_f ?_))
  (refine vCallX_of ?_; (repeat (first | simp (maxSteps := 2000000) (disch := omega) only [go_sem, ↓reduceIte, Nat.reduceEqDiff, Nat.reduceAdd, Nat.reduceMul, Nat.reduceSub, Int.reduceToNat, Int.reduceAdd, Int.reduceSub, Int.reduceMul, Int.reduceNeg] | with_reducible refine vIf_t ?_ | with_reducible refine vIf_f ?_)); refine vCall_eq (h1) (by simp (disch := omega) only [go_sem, Nat.reduceAdd]) rfl (by first | exact Or.inl rfl | exact Or.inr ⟨rfl, rfl⟩ | (apply Or.inr; simp only [go_sem])) ?_; (repeat (first | simp (maxSteps := 2000000) (disch := omega) only [go_sem, ↓reduceIte, Nat.reduceEqDiff, Nat.reduceAdd, Nat.reduceMul, Nat.reduceSub, Int.reduceToNat, Int.reduceAdd, Int.reduceSub, Int.reduceMul, Int.reduceNeg] | with_reducible refine vIf_t ?_ | with_reducible refine vIf_f ?_)))
  refine vcLoop_invF (fun k : Nat => k ≤ L.length) (fun k => ⟨28, 0, [(5, I k), (3, .ref 0 0 L.length), (4, .ref 1 0 (((L.take k).filter fun w => !w.isEmpty).map tx).length)], [some ⟨1, strs (L.map tx)⟩, some ⟨1, strs (((L.take k).filter fun w => !w.isEmpty).map tx)⟩]⟩) (fun k => L.length - k) 0 (by omega) (by simp only [List.take_zero, List.filter_nil, List.map_nil, List.length_nil]; (first | (refine leF_s ?_; ((repeat (first | simp (maxSteps := 2000000) (disch := omega) only [go_sem, ↓reduceIte, Nat.reduceEqDiff, Nat.reduceAdd, Nat.reduceMul, Nat.reduceSub, Int.reduceToNat, Int.reduceAdd, Int.reduceSub, Int.reduceMul, Int.reduceNeg] | with_reducible refine vIf_t ?_ | with_reducible refine vIf_f ?_)); all_goals (try simp); all_goals (try omega)); done) | (refine leF_p ?_; ((repeat (first | simp (maxSteps := 2000000) (disch := omega) only [go_sem, ↓reduceIte, Nat.reduceEqDiff, Nat.reduceAdd, Nat.reduceMul, Nat.reduceSub, Int.reduceToNat, Int.reduceAdd, Int.reduceSub, Int.reduceMul, Int.reduceNeg] | with_reducible refine vIf_t ?_ | with_reducible refine vIf_f ?_)); all_goals (try simp); all_goals (try omega)); done))) ?_
  intro k hk
  have hfl := List.length_filter_le (fun w : List UInt8 => !w.isEmpty) (L.take k)
  rw [List.length_take] at hfl
  have hss := fun h => wd_take L k h
  generalize hM : (L.take k).filter (fun w => !w.isEmpty) = M at *
  have hml : (M.map tx).length = M.length := List.length_map ..
  have hLl : (L.map tx).length = L.length := List.length_map ..
  (repeat (first | simp (maxSteps := 2000000) (disch := omega) only [go_sem, ↓reduceIte, Nat.reduceEqDiff, Nat.reduceAdd, Nat.reduceMul, Nat.reduceSub, Int.reduceToNat, Int.reduceAdd, Int.reduceSub, Int.reduceMul, Int.reduceNeg] | with_reducible refine vIf_t ?_ | with_reducible refine vIf_f ?_))
  refine vIf_dec (fun hc => ?_) (fun hc => ?_)
  · have hkl : k < L.length := by omega
    have hg := gs_map L k hkl
    have hs2 := hss hkl
    generalize L[k] = w at *
    (repeat (first | simp (maxSteps := 2000000) (disch := omega) only [go_sem, ↓reduceIte, Nat.reduceEqDiff, Nat.reduceAdd, Nat.reduceMul, Nat.reduceSub, Int.reduceToNat, Int.reduceAdd, Int.reduceSub, Int.reduceMul, Int.reduceNeg, hg, tx_nb] | with_reducible refine vIf_t ?_ | with_reducible refine vIf_f ?_))
    cases he : w.isEmpty with
    | true =>
      rw [if_pos he] at hs2
      (repeat (first | simp (maxSteps := 2000000) (disch := omega) only [go_sem, ↓reduceIte, Nat.reduceEqDiff, Nat.reduceAdd, Nat.reduceMul, Nat.reduceSub, Int.reduceToNat, Int.reduceAdd, Int.reduceSub, Int.reduceMul, Int.reduceNeg, he] | with_reducible refine vIf_t ?_ | with_reducible refine vIf_f ?_))
      refine againF (k + 1) (by omega) (by omega) (by rw [hs2]; (first | (refine leF_s ?_; ((repeat (first | simp (maxSteps := 2000000) (disch := omega) only [go_sem, ↓reduceIte, Nat.reduceEqDiff, Nat.reduceAdd, Nat.reduceMul, Nat.reduceSub, Int.reduceToNat, Int.reduceAdd, Int.reduceSub, Int.reduceMul, Int.reduceNeg] | with_reducible refine vIf_t ?_ | with_reducible refine vIf_f ?_)); all_goals (try simp); all_goals (try omega)); done) | (refine leF_p ?_; ((repeat (first | simp (maxSteps := 2000000) (disch := omega) only [go_sem, ↓reduceIte, Nat.reduceEqDiff, Nat.reduceAdd, Nat.reduceMul, Nat.reduceSub, Int.reduceToNat, Int.reduceAdd, Int.reduceSub, Int.reduceMul, Int.reduceNeg] | with_reducible refine vIf_t ?_ | with_reducible refine vIf_f ?_)); all_goals (try simp); all_goals (try omega)); done)))
    | false =>
      rw [if_neg (by rw [he]; simp)] at hs2
      have hap : M.map tx ++ [tx w] = (M ++ [w]).map tx := by simp
      (repeat (first | simp (maxSteps := 2000000) (disch := omega) only [go_sem, ↓reduceIte, Nat.reduceEqDiff, Nat.reduceAdd, Nat.reduceMul, Nat.reduceSub, Int.reduceToNat, Int.reduceAdd, Int.reduceSub, Int.reduceMul, Int.reduceNeg, he, hg] | with_reducible refine vIf_t ?_ | with_reducible refine vIf_f ?_))
      refine againF (k + 1) (by omega) (by omega) ?_
      rw [hs2, ← hap]
      (first | (refine leF_s ?_; ((repeat (first | simp (maxSteps := 2000000) (disch := omega) only [go_sem, ↓reduceIte, Nat.reduceEqDiff, Nat.reduceAdd, Nat.reduceMul, Nat.reduceSub, Int.reduceToNat, Int.reduceAdd, Int.reduceSub, Int.reduceMul, Int.reduceNeg] | with_reducible refine vIf_t ?_ | with_reducible refine vIf_f ?_)); all_goals (try simp); all_goals (try omega)); done) | (refine leF_p ?_; ((repeat (first | simp (maxSteps := 2000000) (disch := omega) only [go_sem, ↓reduceIte, Nat.reduceEqDiff, Nat.reduceAdd, Nat.reduceMul, Nat.reduceSub, Int.reduceToNat, Int.reduceAdd, Int.reduceSub, Int.reduceMul, Int.reduceNeg] | with_reducible refine vIf_t ?_ | with_reducible refine vIf_f ?_)); all_goals (try simp); all_goals (try omega)); done))
  · have ek : k = L.length := by omega
    subst ek
    rw [List.take_length] at hM
    (repeat (first | simp (maxSteps := 2000000) (disch := omega) only [go_sem, ↓reduceIte, Nat.reduceEqDiff, Nat.reduceAdd, Nat.reduceMul, Nat.reduceSub, Int.reduceToNat, Int.reduceAdd, Int.reduceSub, Int.reduceMul, Int.reduceNeg] | with_reducible refine vIf_t ?_ | with_reducible refine vIf_f ?_))
    (refine retK_of ?_; (repeat (first | simp (maxSteps := 2000000) (disch := omega) only [go_sem, ↓reduceIte, Nat.reduceEqDiff, Nat.reduceAdd, Nat.reduceMul, Nat.reduceSub, Int.reduceToNat, Int.reduceAdd, Int.reduceSub, Int.reduceMul, Int.reduceNeg] | with_reducible refine vIf_t ?_ | with_reducible refine vIf_f ?_)))
    rw [hM]
    exact ⟨rfl, rfl⟩
theorem spl_ml (b : UInt8) : ∀ (l cur : List UInt8), ∀ x ∈ splB b l cur, x.length ≤ cur.length + l.length
  | [], cur, x, hx => by
    simp only [splB, List.mem_singleton] at hx
    subst hx; simp
  | c :: r, cur, x, hx => by
    simp only [splB] at hx
    split at hx
    · rcases List.mem_cons.1 hx with rfl | hx
      · simp
      · have := spl_ml b r [] x hx
        simp only [List.length_cons, List.length_nil] at this ⊢; omega
    · have := spl_ml b r (cur ++ [c]) x hx
      simp only [List.length_cons, List.length_append, List.length_nil] at this ⊢; omega
theorem wdL_ok (l w : List UInt8) (h : w ∈ wdL l) : w ≠ [] ∧ (32 : UInt8) ∉ w ∧ w.length ≤ l.length := by
  obtain ⟨h1, h2⟩ := List.mem_filter.1 h
  refine ⟨fun e => by subst e; simp at h2, splB_mem 32 l [] (by simp) w h1, ?_⟩
  have := spl_ml 32 l [] w h1
  simpa using this
end Go.Proofs.YtilocioajpcoiaaDoor

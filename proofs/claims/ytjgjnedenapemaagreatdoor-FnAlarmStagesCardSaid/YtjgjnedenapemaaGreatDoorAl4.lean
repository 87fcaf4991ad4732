/- alarms: texts -/
import Derived.Test.YtjgjnedenapemaaGreatDoorAl1
import Derived.Test.YtjgjnedenapemaaGreatDoorRp7
import Derived.Test.YtjgjnedenapemaaGreatDoorJoinC
import Derived.Test.YtjgjnedenapemaaGreatDoorT8
import Derived.Test.YtjgjnedenapemaaGreatDoorRepl
import Derived.Lib.Split
set_option linter.unusedVariables false
set_option linter.unusedSimpArgs false
namespace Go.Proofs.YtjgjnedenapemaaGreatDoor
open Go.AG Go.Lib Go.RowKit Go.Shelf

attribute [local go_sem] beq_self_eq_true bne_self_eq_false Bool.not_true Bool.not_false
theorem splitK_al (c : UInt8) : ∀ (n : Nat) (l : List UInt8), l.length ≤ n → splitK [c] 0 (count l [c]) l = splB c l []
  | n, l, h => by
    by_cases hm : c ∈ l
    · obtain ⟨a, r, rfl, ha⟩ := List.eq_append_cons_of_mem hm
      cases n with
      | zero => simp at h
      | succ n =>
        have ih := splitK_al c n r (by simp at h; omega)
        have hi := index_at c r a ha
        rw [count_at c a r ha, Nat.add_comm, splitK, if_neg (by rw [hi]; simp), hi, splB_free c a (c :: r) [] ha]
        simp only [Int.toNat_natCast, Nat.add_zero, List.nil_append, splB, if_true, List.length_cons, List.length_nil, Nat.zero_add]
        rw [List.take_left, show (a ++ c :: r).drop (a.length + 1) = r by rw [← List.drop_drop, List.drop_left]; rfl, ih]
    · rw [count_free c l hm]
      have := splB_free c l [] [] hm
      simp only [List.append_nil, List.nil_append] at this
      rw [this]; rfl
theorem splitA_ok (l : List UInt8) (c : UInt8) (hl : l.length ≤ 1000000) : ACalls Tryz.prog 53 [St (tx l), St (tx [c])] [] (fun r o => r = .sl (splB c l []).length (strs ((splB c l []).map tx)) ∧ o = []) := by
  refine ACalls.lib (Q := fun r => r = .sl (splB c l []).length (strs ((splB c l []).map tx))) (vals := [.string (tx l), .string (tx [c])]) ⟨_, Tryz.func53, by kernel_rfl, rfl⟩ rfl fun w X hL hX => ?_
  obtain ⟨m, hm⟩ := maxLen_of hL (by kernel_rfl)
  have h1 : (tx [c]).size = 1 := rfl
  have h2 : (tx l).size = l.length := tx_size l
  refine (Tryz.strings_Split (tx l) (tx [c]) m w (by omega) hm (by omega)).mono ?_
  have hd := splitB_data (tx [c]) 0 (countB (tx l) (tx [c])) (tx l)
  rw [show countB (tx l) (tx [c]) = count l [c] from rfl, show (tx [c]).data.toList = [c] from rfl, show (tx l).data.toList = l from rfl, splitK_al c l.length l (Nat.le_refl _)] at hd
  have hS : splitB (tx [c]) 0 (count l [c]) (tx l) = (splB c l []).map tx := by
    rw [← hd, List.map_map]
    refine (List.map_id _).symm.trans (List.map_congr_left fun x _ => ?_)
    exact (tx_list x).symm
  rintro e w' ⟨rfl, rfl⟩
  rw [show countB (tx l) (tx [c]) = count l [c] from rfl, hS]
  have hlen : count l [c] + 1 = ((splB c l []).map tx).length := by rw [← hS]; exact (splitB_all (tx [c]) (by omega) 0 _ (tx l) rfl).symm
  refine ⟨_, _, rfl, rfl, (Below.refl _ w).alloc (Nat.le_refl _) _, fun Y ρ hY => .d ?_⟩
  have := rep_strs (w := w.alloc (.cells (((splB c l []).map tx).map Value.string).toArray 9)) (A := w.heap.size) (n := count l [c] + 1) (X' := Y) (ss := (splB c l []).map tx) hlen (fun i hi => ?_) (fun h => by have := hY _ h; omega)
  · rw [hlen, List.length_map] at this ⊢
    exact this
  · rw [World.cell?_alloc_at _ _ _ _ rfl]
    have hi2 : i < (splB c l []).length := by simpa using hi
    simp [hi2]
theorem join_al : ∀ (xs : List (List UInt8)), Lib.join xs [32] = joB 32 xs
  | [] => rfl
  | [x] => by rw [Lib.join_one]; rfl
  | x :: y :: r => by
    have ih := join_al (y :: r)
    rw [joB, ← ih, Lib.join_cons, Lib.join_cons]
    simp [Lib.joinTail]
/-- the text of levels of alarms -/
def alT (xs : List Int) : List UInt8 := joB 32 (xs.map lvE)
theorem lvE_free (n : Int) (h : -2000 ≤ n ∧ n ≤ 2000) : (32 : UInt8) ∉ lvE n := by
  have hq : ∀ q, q < 21 → (32 : UInt8) ∉ itoa ((q : Nat) : Int) := by decide +kernel
  have hd : ∀ x, x < 10 → (32 : UInt8) ≠ UInt8.ofNat (48 + x) := by decide
  rw [lvE_eq, lvG_eq]
  simp only [List.mem_cons, List.mem_append, List.not_mem_nil, or_false, not_or]
  refine ⟨?_, hq _ (by omega), by decide, ⟨hd _ (by omega), hd _ (by omega)⟩, by decide⟩
  split <;> decide
theorem alT_split {xs : List Int} (h : AlX xs) : splB 32 (alT xs) [] = xs.map lvE := by
  refine splB_joB 32 _ ?_ fun x hx => ?_
  · intro e
    have := congrArg List.length e
    simp at this
    have := h.n1
    simp_all
  · obtain ⟨n, hn, rfl⟩ := List.mem_map.1 hx
    exact lvE_free n (h.v n hn)
theorem joB_len (b : UInt8) (m : Nat) : ∀ (xs : List (List UInt8)), (∀ x ∈ xs, x.length ≤ m) → (joB b xs).length ≤ xs.length * (m + 1)
  | [], _ => by simp [joB]
  | [x], h => by have := h x (by simp); simp [joB]; omega
  | x :: y :: r, h => by
    have h1 := h x (by simp)
    have h2 := joB_len b m (y :: r) fun z hz => h z (by simp [hz])
    simp only [joB, List.length_append, List.length_cons] at h2 ⊢
    have e : (r.length + 1 + 1) * (m + 1) = (r.length + 1) * (m + 1) + (m + 1) := by rw [Nat.add_mul (r.length + 1) 1]; omega
    omega
theorem alT_len {xs : List Int} (h : AlX xs) : (alT xs).length ≤ 100 := by
  have := joB_len 32 7 (xs.map lvE) fun x hx => by
    obtain ⟨n, hn, rfl⟩ := List.mem_map.1 hx
    exact (lvE_len n (h.v n hn)).2
  have n5 := h.n5
  rw [List.length_map] at this
  unfold alT
  omega
@[local go_sem] theorem mk_txAl (l : List UInt8) : ByteArray.mk (List.toArray l) = tx l := rfl
theorem lvT_E {n : Int} (h : -2000 ≤ n ∧ n ≤ 2000) : lvT n = lvE n := if_pos h
def alW (xs : List Int) (k : Nat) : List ByteArray := ((xs.take k).map lvE).map tx
theorem alW_len (xs : List Int) (k : Nat) (h : k ≤ xs.length) : (alW xs k).length = k := by simp [alW]; omega
theorem alW_succ (xs : List Int) (k : Nat) (h : k < xs.length) : alW xs (k + 1) = alW xs k ++ [tx (lvE (gi xs k))] := by
  rw [alW, alW, gi_lt _ _ h, List.take_succ_eq_append_getElem h]
  simp only [List.map_append, List.map_cons, List.map_nil]
theorem alText_ok (xs : List Int) (h : AlX xs) : ACalls Tryz.prog 12 [.sl xs.length (ints xs)] [] (fun r o => r = St (tx (alT xs)) ∧ o = []) := by
  refine ACalls.of_vc Tryz.func12 rfl (by decide) 24 rfl [.tmp 2] rfl (by simp) ?_
  have h1 := validA_ok xs h
  have n5 := h.n5
  have hj := join_ok (xs.map lvE) [32] (by simp; omega) (by rw [join_al]; have := alT_len h; unfold alT at this; omega)
  rw [join_al, List.length_map] at hj
  have htk : ((xs.map lvE).map tx).take xs.length = (xs.map lvE).map tx := List.take_of_length_le (by simp)
  rw [← htk] at hj
  (repeat (first | simp (maxSteps := 2000000) (disch := omega) only [go_sem, ↓reduceIte] | with_reducible refine vIf_t ?_ | with_reducible refine vIf_f ?_))
  (refine vCallX_of ?_; (repeat (first | simp (maxSteps := 2000000) (disch := omega) only [go_sem, ↓reduceIte] | with_reducible refine vIf_t ?_ | with_reducible refine vIf_f ?_)); refine vCall_eq (h1) (by simp (disch := omega) only [go_sem]) rfl (by first | exact Or.inl rfl | exact Or.inr ⟨rfl, rfl⟩ | (apply Or.inr; simp only [go_sem])) ?_; (repeat (first | simp (maxSteps := 2000000) (disch := omega) only [go_sem, ↓reduceIte] | with_reducible refine vIf_t ?_ | with_reducible refine vIf_f ?_)))
  refine vcLoop_invF (fun k : Nat => k ≤ xs.length) (fun k => ⟨24, 0, [(12, I k), (3, .ref 0 0 k), (10, .sl xs.length (ints xs)), (11, I xs.length)], [some ⟨1, strs (alW xs k)⟩]⟩) (fun k => xs.length - k) 0 (by omega) (by rw [show alW xs 0 = [] from rfl]; (first | (refine leF_s ?_; ((repeat (first | simp (maxSteps := 2000000) (disch := omega) only [go_sem, ↓reduceIte] | with_reducible refine vIf_t ?_ | with_reducible refine vIf_f ?_)); all_goals (try simp); all_goals (try omega)); done) | (refine leF_p ?_; ((repeat (first | simp (maxSteps := 2000000) (disch := omega) only [go_sem, ↓reduceIte] | with_reducible refine vIf_t ?_ | with_reducible refine vIf_f ?_)); all_goals (try simp); all_goals (try omega)); done))) ?_
  intro k hk
  have hl := alW_len xs k hk
  (repeat (first | simp (maxSteps := 2000000) (disch := omega) only [go_sem, ↓reduceIte] | with_reducible refine vIf_t ?_ | with_reducible refine vIf_f ?_))
  refine vIf_dec (fun hc => ?_) (fun hc => ?_)
  · have hkl : k < xs.length := by omega
    have ht := lvText_ok (gi xs k)
    rw [lvT_E (h.v _ (gi_mem _ _ hkl))] at ht
    have e := alW_succ xs k hkl
    (repeat (first | simp (maxSteps := 2000000) (disch := omega) only [go_sem, ↓reduceIte] | with_reducible refine vIf_t ?_ | with_reducible refine vIf_f ?_))
    (refine vCallX_of ?_; (repeat (first | simp (maxSteps := 2000000) (disch := omega) only [go_sem, ↓reduceIte] | with_reducible refine vIf_t ?_ | with_reducible refine vIf_f ?_)); refine vCall_eq (ht) (by simp (disch := omega) only [go_sem]) rfl (by first | exact Or.inl rfl | exact Or.inr ⟨rfl, rfl⟩ | (apply Or.inr; simp only [go_sem])) ?_; (repeat (first | simp (maxSteps := 2000000) (disch := omega) only [go_sem, ↓reduceIte] | with_reducible refine vIf_t ?_ | with_reducible refine vIf_f ?_)))
    refine againF (k + 1) (by omega) (by omega) ?_
    rw [e]
    (first | (refine leF_s ?_; ((repeat (first | simp (maxSteps := 2000000) (disch := omega) only [go_sem, ↓reduceIte] | with_reducible refine vIf_t ?_ | with_reducible refine vIf_f ?_)); all_goals (try simp); all_goals (try omega)); done) | (refine leF_p ?_; ((repeat (first | simp (maxSteps := 2000000) (disch := omega) only [go_sem, ↓reduceIte] | with_reducible refine vIf_t ?_ | with_reducible refine vIf_f ?_)); all_goals (try simp); all_goals (try omega)); done))
  · have ek : k = xs.length := by omega
    have e : alW xs k = (xs.map lvE).map tx := by rw [alW, List.take_of_length_le (by omega)]
    rw [e, ek]
    (repeat (first | simp (maxSteps := 2000000) (disch := omega) only [go_sem, ↓reduceIte] | with_reducible refine vIf_t ?_ | with_reducible refine vIf_f ?_))
    (refine vCallX_of ?_; (repeat (first | simp (maxSteps := 2000000) (disch := omega) only [go_sem, ↓reduceIte] | with_reducible refine vIf_t ?_ | with_reducible refine vIf_f ?_)); refine vCall_eq (hj) (by simp (disch := omega) only [go_sem]) rfl (by first | exact Or.inl rfl | exact Or.inr ⟨rfl, rfl⟩ | (apply Or.inr; simp only [go_sem])) ?_; (repeat (first | simp (maxSteps := 2000000) (disch := omega) only [go_sem, ↓reduceIte] | with_reducible refine vIf_t ?_ | with_reducible refine vIf_f ?_)))
    (refine retK_of ?_; (repeat (first | simp (maxSteps := 2000000) (disch := omega) only [go_sem, ↓reduceIte] | with_reducible refine vIf_t ?_ | with_reducible refine vIf_f ?_)))
    rfl
set_option maxHeartbeats 2000000 in
theorem readA_ok (xs : List Int) (h : AlX xs) : ACalls Tryz.prog 11 [St (tx (alT xs))] [] (fun r o => r = .tup [.ref 0 0 xs.length, B true] ∧ o = [oI xs]) := by
  refine ACalls.of_vc Tryz.func11 rfl (by decide) 35 rfl [.tmp 2, .tmp 3] rfl (by simp) ?_
  have h1 := validA_ok xs h
  have n5 := h.n5
  have hs := splitA_ok (alT xs) 32 (by have := alT_len h; omega)
  rw [alT_split h, List.length_map] at hs
  (repeat (first | simp (maxSteps := 2000000) (disch := omega) only [go_sem, ↓reduceIte] | with_reducible refine vIf_t ?_ | with_reducible refine vIf_f ?_))
  (refine vCallX_of ?_; (repeat (first | simp (maxSteps := 2000000) (disch := omega) only [go_sem, ↓reduceIte] | with_reducible refine vIf_t ?_ | with_reducible refine vIf_f ?_)); refine vCall_eq (hs) (by simp (disch := omega) only [go_sem]) rfl (by first | exact Or.inl rfl | exact Or.inr ⟨rfl, rfl⟩ | (apply Or.inr; simp only [go_sem])) ?_; (repeat (first | simp (maxSteps := 2000000) (disch := omega) only [go_sem, ↓reduceIte] | with_reducible refine vIf_t ?_ | with_reducible refine vIf_f ?_)))
  refine vcLoop_invF (fun k : Nat => k ≤ xs.length) (fun k => ⟨35, 0, [(13, I k), (4, .ref 0 0 k), (11, .sl xs.length (strs ((xs.map lvE).map tx))), (12, I xs.length)], [oI (xs.take k)]⟩) (fun k => xs.length - k) 0 (by omega) (by (first | (refine leF_s ?_; ((repeat (first | simp (maxSteps := 2000000) (disch := omega) only [go_sem, ↓reduceIte] | with_reducible refine vIf_t ?_ | with_reducible refine vIf_f ?_)); all_goals (try simp); all_goals (try omega)); done) | (refine leF_p ?_; ((repeat (first | simp (maxSteps := 2000000) (disch := omega) only [go_sem, ↓reduceIte] | with_reducible refine vIf_t ?_ | with_reducible refine vIf_f ?_)); all_goals (try simp); all_goals (try omega)); done))) ?_
  intro k hk
  have hl : (xs.take k).length = k := by simp; omega
  have hml : ((xs.map lvE).map tx).length = xs.length := by simp
  (repeat (first | simp (maxSteps := 2000000) (disch := omega) only [go_sem, ↓reduceIte] | with_reducible refine vIf_t ?_ | with_reducible refine vIf_f ?_))
  refine vIf_dec (fun hc => ?_) (fun hc => ?_)
  · have hkl : k < xs.length := by omega
    have hv := h.v _ (gi_mem _ _ hkl)
    have hg : gs ((xs.map lvE).map tx) k = tx (lvE (gi xs k)) := by
      rw [gi_lt _ _ hkl]
      simp [gs, hkl]
    have hr := readLv_ok (lvE (gi xs k)) (by have := lvE_len _ hv; omega)
    rw [rlO_back hv] at hr
    unfold rdR at hr
    have e : xs.take (k + 1) = xs.take k ++ [gi xs k] := by rw [gi_lt _ _ hkl, List.take_succ_eq_append_getElem hkl]
    (repeat (first | simp (maxSteps := 2000000) (disch := omega) only [go_sem, ↓reduceIte, hg] | with_reducible refine vIf_t ?_ | with_reducible refine vIf_f ?_))
    (refine vCallX_of ?_; (repeat (first | simp (maxSteps := 2000000) (disch := omega) only [go_sem, ↓reduceIte] | with_reducible refine vIf_t ?_ | with_reducible refine vIf_f ?_)); refine vCall_eq (hr) (by simp (disch := omega) only [go_sem]) rfl (by first | exact Or.inl rfl | exact Or.inr ⟨rfl, rfl⟩ | (apply Or.inr; simp only [go_sem])) ?_; (repeat (first | simp (maxSteps := 2000000) (disch := omega) only [go_sem, ↓reduceIte] | with_reducible refine vIf_t ?_ | with_reducible refine vIf_f ?_)))
    refine againF (k + 1) (by omega) (by omega) ?_
    rw [e]
    (first | (refine leF_s ?_; ((repeat (first | simp (maxSteps := 2000000) (disch := omega) only [go_sem, ↓reduceIte] | with_reducible refine vIf_t ?_ | with_reducible refine vIf_f ?_)); all_goals (try simp); all_goals (try omega)); done) | (refine leF_p ?_; ((repeat (first | simp (maxSteps := 2000000) (disch := omega) only [go_sem, ↓reduceIte] | with_reducible refine vIf_t ?_ | with_reducible refine vIf_f ?_)); all_goals (try simp); all_goals (try omega)); done))
  · have ek : k = xs.length := by omega
    rw [List.take_of_length_le (by omega), ek]
    (repeat (first | simp (maxSteps := 2000000) (disch := omega) only [go_sem, ↓reduceIte] | with_reducible refine vIf_t ?_ | with_reducible refine vIf_f ?_))
    (refine vCallX_of ?_; (repeat (first | simp (maxSteps := 2000000) (disch := omega) only [go_sem, ↓reduceIte] | with_reducible refine vIf_t ?_ | with_reducible refine vIf_f ?_)); refine vCall_eq (h1) (by simp (disch := omega) only [go_sem]) rfl (by first | exact Or.inl rfl | exact Or.inr ⟨rfl, rfl⟩ | (apply Or.inr; simp only [go_sem])) ?_; (repeat (first | simp (maxSteps := 2000000) (disch := omega) only [go_sem, ↓reduceIte] | with_reducible refine vIf_t ?_ | with_reducible refine vIf_f ?_)))
    (refine retK_of ?_; (repeat (first | simp (maxSteps := 2000000) (disch := omega) only [go_sem, ↓reduceIte] | with_reducible refine vIf_t ?_ | with_reducible refine vIf_f ?_)))
end Go.Proofs.YtjgjnedenapemaaGreatDoor

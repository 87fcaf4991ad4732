/- duties: unfair ones, numbers of parts, what is drawn -/
import Derived.Test.YthnphcinjchloaaDut3
import Derived.Test.YthnphcinjchloaaRowR
set_option linter.unusedVariables false
set_option linter.unusedSimpArgs false
namespace Go.Proofs.Ythnphcinjchloaa
open Go.AG Go.Lib

def DuR (xs : List Du) (c : Int) (r : V) (o : Objs) : Prop := (r = .tup [.ref 0 0 xs.length, I c] ∧ o = [some ⟨3, cDu xs⟩]) ∨ (xs = [] ∧ r = .tup [.sc (.slice none 0 0), I c] ∧ o = [])
theorem DuR.fz {P : Program} {f : FuncId} {args : List V} {xs : List Du} {c : Int} (h : ACalls P f args [] (DuR xs c)) : ACalls P f args [] (fun r o => r = .tup [.sl xs.length (cDu xs), I c] ∧ o = []) := by
  have h1 : ACalls P f args [] (fun r o => (r = .tup [.sl xs.length (cDu xs), I c] ∧ o = []) ∨ (xs = [] ∧ r = .tup [.sc (.slice none 0 0), I c] ∧ o = [])) := by
    refine h.fz ?_
    rintro r o (⟨rfl, rfl⟩ | ⟨h1, rfl, rfl⟩)
    · refine ⟨.tup [.sl xs.length (cDu xs), I c], .step 0 ⟨3, cDu xs⟩ rfl (by (repeat (first | simp (maxSteps := 2000000) (disch := omega) only [go_sem, ↓reduceIte, Nat.reduceEqDiff, Nat.reduceAdd, Nat.reduceMul, Nat.reduceSub, Int.reduceToNat, Int.reduceAdd, Int.reduceSub, Int.reduceMul, Int.reduceNeg] | with_reducible refine vIf_t ?_ | with_reducible refine vIf_f ?_))) ?_, .inl ⟨rfl, rfl⟩⟩
      (repeat (first | simp (maxSteps := 2000000) (disch := omega) only [go_sem, ↓reduceIte, Nat.reduceEqDiff, Nat.reduceAdd, Nat.reduceMul, Nat.reduceSub, Int.reduceToNat, Int.reduceAdd, Int.reduceSub, Int.reduceMul, Int.reduceNeg] | with_reducible refine vIf_t ?_ | with_reducible refine vIf_f ?_))
      exact .done rfl
    · exact ⟨_, .done rfl, .inr ⟨h1, rfl, rfl⟩⟩
  refine h1.leD ?_
  rintro r o (⟨rfl, rfl⟩ | ⟨h1, rfl, rfl⟩)
  · exact ⟨_, .le (V.le_refl _), rfl, rfl⟩
  · subst h1
    exact ⟨_, LeD.tup' (leD_nilS (leD_same _ leD_nil)), rfl, rfl⟩
/-! the divided dike, as a row -/
def ddL (ps : List Pc) (L : Int) : List Du := if ddC ps L = 0 then dvL (shD ps L) 40 else []
theorem divideF_ok (ps : List Pc) (L : Int) (hl : ps.length ≤ 10000000) : ACalls Try.prog 42 [.sl ps.length (cPc ps), I L] [] (fun r o => r = .tup [.sl (ddL ps L).length (cDu (ddL ps L)), I (ddC ps L)] ∧ o = []) := by
  refine DuR.fz ((divideD_ok ps L hl).mono fun r o h => ?_)
  unfold ddL
  split at h
  · rename_i h0
    rw [if_pos h0, h0]
    exact .inl h
  · rename_i h0
    rw [if_neg h0]
    exact .inl h
theorem divideSF_ok (ps : List Pc) (L : Int) (hl : ps.length ≤ 10000000) : ACalls Try.prog 43 [.sl ps.length (cPc ps), I L] [] (fun r o => r = .tup [.sl (ddL ps L).length (cDu (ddL ps L)), I (ddC ps L)] ∧ o = []) := by
  refine DuR.fz ((divideDS_ok ps L hl).mono fun r o h => ?_)
  unfold ddL
  split at h
  · rename_i h0
    rw [if_pos h0, h0]
    exact .inl h
  · rename_i h0
    rw [if_neg h0]
    exact .inr ⟨rfl, h⟩
/-! numbers of parts -/
def cnO (ds : List Du) : List Int := acc Du.owner (fun _ => 1) 40 ds
theorem cnO_len (ds : List Du) : (cnO ds).length = 40 := acc_len _ _ _ _
theorem cnO_take (ds : List Du) (k : Nat) (h : k < ds.length) (hn : (gDu ds k).owner.toNat < 40) : cnO (ds.take (k + 1)) = wr (cnO (ds.take k)) (gDu ds k).owner.toNat [IntKind.wrap .i64 (gi (cnO (ds.take k)) (gDu ds k).owner.toNat + 1)] := by
  have he := acc_take Du.owner (fun _ => 1) 40 ds k h
  rw [← gDu_lt ds k h] at he
  rw [wr_set _ _ _ (by rw [cnO_len]; exact hn)]
  exact he
def cpC (ds : List Du) (L : Int) : Int := if vdB ds L = true then 0 else 1
def cpL (ds : List Du) (L : Int) : List Int := if vdB ds L = true then cnO ds else []
set_option maxHeartbeats 4000000 in
theorem countP_ok (ds : List Du) (L : Int) (hl : ds.length ≤ 10000000) : ACalls Try.prog 54 [.sl ds.length (cDu ds), I L] [] (fun r o => r = .tup [.sl (cpL ds L).length (ints (cpL ds L)), I (cpC ds L)] ∧ o = []) := by
  refine RowR.fz (ACalls.mono (Q := fun r o => r = .tup [.ref 0 0 (cpL ds L).length, I (cpC ds L)] ∧ o = [oI (cpL ds L)]) ?_ fun r o h => .inl h)
  refine ACalls.of_vc Try.func54 rfl (by decide) 30 rfl [.tmp 4, .tmp 5] rfl (by simp) ?_
  (repeat (first | simp (maxSteps := 2000000) (disch := omega) only [go_sem, ↓reduceIte, Nat.reduceEqDiff, Nat.reduceAdd, Nat.reduceMul, Nat.reduceSub, Int.reduceToNat, Int.reduceAdd, Int.reduceSub, Int.reduceMul, Int.reduceNeg] | with_reducible refine vIf_t ?_ | with_reducible refine vIf_f ?_))
  (refine vCallX_of ?_; (repeat (first | simp (maxSteps := 2000000) (disch := omega) only [go_sem, ↓reduceIte, Nat.reduceEqDiff, Nat.reduceAdd, Nat.reduceMul, Nat.reduceSub, Int.reduceToNat, Int.reduceAdd, Int.reduceSub, Int.reduceMul, Int.reduceNeg] | with_reducible refine vIf_t ?_ | with_reducible refine vIf_f ?_)); refine vCall_eq (validD_ok ds L hl) (by simp (disch := omega) only [go_sem, Nat.reduceAdd]) rfl (by first | exact Or.inl rfl | exact Or.inr ⟨rfl, rfl⟩ | (apply Or.inr; simp only [go_sem])) ?_; (repeat (first | simp (maxSteps := 2000000) (disch := omega) only [go_sem, ↓reduceIte, Nat.reduceEqDiff, Nat.reduceAdd, Nat.reduceMul, Nat.reduceSub, Int.reduceToNat, Int.reduceAdd, Int.reduceSub, Int.reduceMul, Int.reduceNeg] | with_reducible refine vIf_t ?_ | with_reducible refine vIf_f ?_)))
  cases hv : vdB ds L with
  | false =>
    simp only [cpL, cpC, hv]
    (repeat (first | simp (maxSteps := 2000000) (disch := omega) only [go_sem, ↓reduceIte, Nat.reduceEqDiff, Nat.reduceAdd, Nat.reduceMul, Nat.reduceSub, Int.reduceToNat, Int.reduceAdd, Int.reduceSub, Int.reduceMul, Int.reduceNeg] | with_reducible refine vIf_t ?_ | with_reducible refine vIf_f ?_))
    (refine retK_of ?_; (repeat (first | simp (maxSteps := 2000000) (disch := omega) only [go_sem, ↓reduceIte, Nat.reduceEqDiff, Nat.reduceAdd, Nat.reduceMul, Nat.reduceSub, Int.reduceToNat, Int.reduceAdd, Int.reduceSub, Int.reduceMul, Int.reduceNeg] | with_reducible refine vIf_t ?_ | with_reducible refine vIf_f ?_)))
  | true =>
    have V := (vdB_iff ds L).1 hv
    have hn := V.n
    simp only [cpL, cpC, hv, if_true, cnO_len]
    (repeat (first | simp (maxSteps := 2000000) (disch := omega) only [go_sem, ↓reduceIte, Nat.reduceEqDiff, Nat.reduceAdd, Nat.reduceMul, Nat.reduceSub, Int.reduceToNat, Int.reduceAdd, Int.reduceSub, Int.reduceMul, Int.reduceNeg] | with_reducible refine vIf_t ?_ | with_reducible refine vIf_f ?_))
    refine vcLoop_invF (fun k : Nat => k ≤ ds.length) (fun k => ⟨30, 0, [(17, I k), (6, .ref 0 0 40), (15, .sl ds.length (cDu ds)), (16, I ds.length)], [oI (cnO (ds.take k))]⟩) (fun k => ds.length - k) 0 (by omega) (by refine leF_s ?_; (repeat (first | simp (maxSteps := 2000000) (disch := omega) only [go_sem, ↓reduceIte, Nat.reduceEqDiff, Nat.reduceAdd, Nat.reduceMul, Nat.reduceSub, Int.reduceToNat, Int.reduceAdd, Int.reduceSub, Int.reduceMul, Int.reduceNeg, List.take_zero, cnO, acc_nil] | with_reducible refine vIf_t ?_ | with_reducible refine vIf_f ?_))) ?_
    intro k hk
    have hlen := cnO_len (ds.take k)
    (repeat (first | simp (maxSteps := 2000000) (disch := omega) only [go_sem, ↓reduceIte, Nat.reduceEqDiff, Nat.reduceAdd, Nat.reduceMul, Nat.reduceSub, Int.reduceToNat, Int.reduceAdd, Int.reduceSub, Int.reduceMul, Int.reduceNeg] | with_reducible refine vIf_t ?_ | with_reducible refine vIf_f ?_))
    refine vIf_dec (fun h => ?_) (fun h => ?_)
    · have hkl : k < ds.length := by omega
      have o1 := V.bd k hkl
      have hn : (gDu ds k).owner.toNat < 40 := by omega
      have he := cnO_take ds k hkl hn
      (repeat (first | simp (maxSteps := 2000000) (disch := omega) only [go_sem, ↓reduceIte, Nat.reduceEqDiff, Nat.reduceAdd, Nat.reduceMul, Nat.reduceSub, Int.reduceToNat, Int.reduceAdd, Int.reduceSub, Int.reduceMul, Int.reduceNeg, hlen] | with_reducible refine vIf_t ?_ | with_reducible refine vIf_f ?_))
      refine againF (k + 1) (by omega) (by omega) ?_
      rw [he]
      (first | (refine leF_s ?_; ((repeat (first | simp (maxSteps := 2000000) (disch := omega) only [go_sem, ↓reduceIte, Nat.reduceEqDiff, Nat.reduceAdd, Nat.reduceMul, Nat.reduceSub, Int.reduceToNat, Int.reduceAdd, Int.reduceSub, Int.reduceMul, Int.reduceNeg] | with_reducible refine vIf_t ?_ | with_reducible refine vIf_f ?_)); all_goals (try simp); all_goals (try omega)); done) | (refine leF_p ?_; ((repeat (first | simp (maxSteps := 2000000) (disch := omega) only [go_sem, ↓reduceIte, Nat.reduceEqDiff, Nat.reduceAdd, Nat.reduceMul, Nat.reduceSub, Int.reduceToNat, Int.reduceAdd, Int.reduceSub, Int.reduceMul, Int.reduceNeg] | with_reducible refine vIf_t ?_ | with_reducible refine vIf_f ?_)); all_goals (try simp); all_goals (try omega)); done))
    · rw [List.take_of_length_le (by omega)]
      (repeat (first | simp (maxSteps := 2000000) (disch := omega) only [go_sem, ↓reduceIte, Nat.reduceEqDiff, Nat.reduceAdd, Nat.reduceMul, Nat.reduceSub, Int.reduceToNat, Int.reduceAdd, Int.reduceSub, Int.reduceMul, Int.reduceNeg] | with_reducible refine vIf_t ?_ | with_reducible refine vIf_f ?_))
      (refine retK_of ?_; (repeat (first | simp (maxSteps := 2000000) (disch := omega) only [go_sem, ↓reduceIte, Nat.reduceEqDiff, Nat.reduceAdd, Nat.reduceMul, Nat.reduceSub, Int.reduceToNat, Int.reduceAdd, Int.reduceSub, Int.reduceMul, Int.reduceNeg] | with_reducible refine vIf_t ?_ | with_reducible refine vIf_f ?_)))
set_option maxHeartbeats 4000000 in
theorem countPS_ok (ds : List Du) (L : Int) (hl : ds.length ≤ 10000000) : ACalls Try.prog 55 [.sl ds.length (cDu ds), I L] [] (fun r o => r = .tup [.sl (cpL ds L).length (ints (cpL ds L)), I (cpC ds L)] ∧ o = []) := by
  refine RowR.fz ?_
  unfold RowR
  refine ACalls.of_vc Try.func55 rfl (by decide) 30 rfl [.tmp 4, .tmp 5] rfl (by simp) ?_
  (repeat (first | simp (maxSteps := 2000000) (disch := omega) only [go_sem, ↓reduceIte, Nat.reduceEqDiff, Nat.reduceAdd, Nat.reduceMul, Nat.reduceSub, Int.reduceToNat, Int.reduceAdd, Int.reduceSub, Int.reduceMul, Int.reduceNeg] | with_reducible refine vIf_t ?_ | with_reducible refine vIf_f ?_))
  (refine vCallX_of ?_; (repeat (first | simp (maxSteps := 2000000) (disch := omega) only [go_sem, ↓reduceIte, Nat.reduceEqDiff, Nat.reduceAdd, Nat.reduceMul, Nat.reduceSub, Int.reduceToNat, Int.reduceAdd, Int.reduceSub, Int.reduceMul, Int.reduceNeg] | with_reducible refine vIf_t ?_ | with_reducible refine vIf_f ?_)); refine vCall_eq (l21Ok_ok ds L hl) (by simp (disch := omega) only [go_sem, Nat.reduceAdd]) rfl (by first | exact Or.inl rfl | exact Or.inr ⟨rfl, rfl⟩ | (apply Or.inr; simp only [go_sem])) ?_; (repeat (first | simp (maxSteps := 2000000) (disch := omega) only [go_sem, ↓reduceIte, Nat.reduceEqDiff, Nat.reduceAdd, Nat.reduceMul, Nat.reduceSub, Int.reduceToNat, Int.reduceAdd, Int.reduceSub, Int.reduceMul, Int.reduceNeg] | with_reducible refine vIf_t ?_ | with_reducible refine vIf_f ?_)))
  cases hv : vdB ds L with
  | false =>
    simp only [cpL, cpC, hv]
    (repeat (first | simp (maxSteps := 2000000) (disch := omega) only [go_sem, ↓reduceIte, Nat.reduceEqDiff, Nat.reduceAdd, Nat.reduceMul, Nat.reduceSub, Int.reduceToNat, Int.reduceAdd, Int.reduceSub, Int.reduceMul, Int.reduceNeg] | with_reducible refine vIf_t ?_ | with_reducible refine vIf_f ?_))
    (refine retK_of ?_; (repeat (first | simp (maxSteps := 2000000) (disch := omega) only [go_sem, ↓reduceIte, Nat.reduceEqDiff, Nat.reduceAdd, Nat.reduceMul, Nat.reduceSub, Int.reduceToNat, Int.reduceAdd, Int.reduceSub, Int.reduceMul, Int.reduceNeg] | with_reducible refine vIf_t ?_ | with_reducible refine vIf_f ?_)))
    first | exact trivial | (simp; done)
  | true =>
    have V := (vdB_iff ds L).1 hv
    have hn := V.n
    simp only [cpL, cpC, hv, if_true, cnO_len]
    (repeat (first | simp (maxSteps := 2000000) (disch := omega) only [go_sem, ↓reduceIte, Nat.reduceEqDiff, Nat.reduceAdd, Nat.reduceMul, Nat.reduceSub, Int.reduceToNat, Int.reduceAdd, Int.reduceSub, Int.reduceMul, Int.reduceNeg] | with_reducible refine vIf_t ?_ | with_reducible refine vIf_f ?_))
    refine vcLoop_invF (fun k : Nat => k ≤ ds.length) (fun k => ⟨30, 0, [(7, I k), (0, .sl ds.length (cDu ds)), (6, .ref 0 0 40)], [oI (cnO (ds.take k))]⟩) (fun k => ds.length - k) 0 (by omega) (by refine leF_s ?_; (repeat (first | simp (maxSteps := 2000000) (disch := omega) only [go_sem, ↓reduceIte, Nat.reduceEqDiff, Nat.reduceAdd, Nat.reduceMul, Nat.reduceSub, Int.reduceToNat, Int.reduceAdd, Int.reduceSub, Int.reduceMul, Int.reduceNeg, List.take_zero, cnO, acc_nil] | with_reducible refine vIf_t ?_ | with_reducible refine vIf_f ?_))) ?_
    intro k hk
    have hlen := cnO_len (ds.take k)
    (repeat (first | simp (maxSteps := 2000000) (disch := omega) only [go_sem, ↓reduceIte, Nat.reduceEqDiff, Nat.reduceAdd, Nat.reduceMul, Nat.reduceSub, Int.reduceToNat, Int.reduceAdd, Int.reduceSub, Int.reduceMul, Int.reduceNeg] | with_reducible refine vIf_t ?_ | with_reducible refine vIf_f ?_))
    refine vIf_dec (fun h => ?_) (fun h => ?_)
    · have hkl : k < ds.length := by omega
      have o1 := V.bd k hkl
      have hn : (gDu ds k).owner.toNat < 40 := by omega
      have he := cnO_take ds k hkl hn
      (repeat (first | simp (maxSteps := 2000000) (disch := omega) only [go_sem, ↓reduceIte, Nat.reduceEqDiff, Nat.reduceAdd, Nat.reduceMul, Nat.reduceSub, Int.reduceToNat, Int.reduceAdd, Int.reduceSub, Int.reduceMul, Int.reduceNeg, hlen] | with_reducible refine vIf_t ?_ | with_reducible refine vIf_f ?_))
      refine againF (k + 1) (by omega) (by omega) ?_
      rw [he]
      (first | (refine leF_s ?_; ((repeat (first | simp (maxSteps := 2000000) (disch := omega) only [go_sem, ↓reduceIte, Nat.reduceEqDiff, Nat.reduceAdd, Nat.reduceMul, Nat.reduceSub, Int.reduceToNat, Int.reduceAdd, Int.reduceSub, Int.reduceMul, Int.reduceNeg] | with_reducible refine vIf_t ?_ | with_reducible refine vIf_f ?_)); all_goals (try simp); all_goals (try omega)); done) | (refine leF_p ?_; ((repeat (first | simp (maxSteps := 2000000) (disch := omega) only [go_sem, ↓reduceIte, Nat.reduceEqDiff, Nat.reduceAdd, Nat.reduceMul, Nat.reduceSub, Int.reduceToNat, Int.reduceAdd, Int.reduceSub, Int.reduceMul, Int.reduceNeg] | with_reducible refine vIf_t ?_ | with_reducible refine vIf_f ?_)); all_goals (try simp); all_goals (try omega)); done))
    · rw [List.take_of_length_le (by omega)]
      (repeat (first | simp (maxSteps := 2000000) (disch := omega) only [go_sem, ↓reduceIte, Nat.reduceEqDiff, Nat.reduceAdd, Nat.reduceMul, Nat.reduceSub, Int.reduceToNat, Int.reduceAdd, Int.reduceSub, Int.reduceMul, Int.reduceNeg] | with_reducible refine vIf_t ?_ | with_reducible refine vIf_f ?_))
      (refine retK_of ?_; (repeat (first | simp (maxSteps := 2000000) (disch := omega) only [go_sem, ↓reduceIte, Nat.reduceEqDiff, Nat.reduceAdd, Nat.reduceMul, Nat.reduceSub, Int.reduceToNat, Int.reduceAdd, Int.reduceSub, Int.reduceMul, Int.reduceNeg] | with_reducible refine vIf_t ?_ | with_reducible refine vIf_f ?_)))
      first | exact trivial | (simp; done)
theorem sumI_const (xs : List Du) : sumI (xs.map fun _ => (1 : Int)) = xs.length := by
  induction xs with
  | nil => simp [sumI_nil]
  | cons x r ih => simp only [List.map_cons, sumI_cons, ih, List.length_cons]; omega
theorem cn_sum {ds : List Du} {L : Int} (V : VD ds L) : wsum (cnO ds) = ds.length := by
  have hn := V.n
  have hk : ∀ d ∈ ds, 0 ≤ d.owner ∧ d.owner < (40 : Nat) := fun d hd => by
    obtain ⟨i, hi, rfl⟩ := List.mem_iff_getElem.1 hd
    have := V.bd i hi
    rw [gDu_lt ds i hi] at this
    omega
  have hv := acc_val Du.owner (fun _ => 1) 40 1 (by omega) ds hk (fun p hp => by omega) (by omega)
  have hw := wsum_eq (cnO ds) 40 (by omega) (fun x hx => by
    obtain ⟨j, hj, rfl⟩ := List.mem_iff_getElem.1 hx
    rw [← gi_lt _ _ hj]
    have e := hv.1 j (by rw [cnO_len] at hj; exact hj)
    have h2 : gi (cnO ds) j = ((ds.filter fun p => decide (p.owner = (j : Int))).length : Int) := by rw [← sumI_const]; exact e
    have := List.length_filter_le (fun p : Du => decide (p.owner = (j : Int))) ds
    omega) (by rw [cnO_len]; omega)
  rw [hw.1]
  exact hv.2.trans (sumI_const ds)
/-! unfair duties -/
def acD (ds : List Du) : List Int := acc Du.owner (fun d => d.tw - d.fr) 40 ds
theorem acD_len (ds : List Du) : (acD ds).length = 40 := acc_len _ _ _ _
theorem acD_take (ds : List Du) (k : Nat) (h : k < ds.length) (hn : (gDu ds k).owner.toNat < 40) : acD (ds.take (k + 1)) = wr (acD (ds.take k)) (gDu ds k).owner.toNat [IntKind.wrap .i64 (gi (acD (ds.take k)) (gDu ds k).owner.toNat + ((gDu ds k).tw - (gDu ds k).fr))] := by
  have he := acc_take Du.owner (fun d => d.tw - d.fr) 40 ds k h
  rw [← gDu_lt ds k h] at he
  rw [wr_set _ _ _ (by rw [acD_len]; exact hn)]
  exact he
theorem fil_doK (ds : List Du) (o : Int) (k : Nat) (hk : k ≤ ds.length) : sumI (((ds.take k).filter fun p => decide (p.owner = o)).map fun d => d.tw - d.fr) = doK ds o k := by
  induction k with
  | zero => simp [sumI_nil, doK]
  | succ k ih =>
    rw [gDu_take_succ ds k (by omega), List.filter_append, List.map_append, sumI_append, ih (by omega), doK]
    by_cases e : (gDu ds k).owner = o
    · simp [e, sumI_cons, sumI_nil]
    · simp [e, sumI_nil]
theorem acD_ok {ds : List Du} {L : Int} (V : VD ds L) : (∀ j : Nat, j < 40 → gi (acD ds) j = doK ds j ds.length) ∧ sumI (acD ds) = L := by
  have hn := V.n
  have hL := V.l
  have hb : ∀ d ∈ ds, (0 ≤ d.owner ∧ d.owner < (40 : Nat)) ∧ 0 ≤ d.tw - d.fr ∧ d.tw - d.fr ≤ 300000 := fun d hd => by
    obtain ⟨i, hi, rfl⟩ := List.mem_iff_getElem.1 hd
    have := V.bd i hi
    rw [gDu_lt ds i hi] at this
    omega
  have hv := acc_val Du.owner (fun d => d.tw - d.fr) 40 300000 (by omega) ds (fun d hd => (hb d hd).1) (fun d hd => (hb d hd).2) (by omega)
  refine ⟨fun j hj => ?_, ?_⟩
  · have e : gi (acD ds) j = sumI ((ds.filter fun p => decide (p.owner = (j : Int))).map fun d => d.tw - d.fr) := hv.1 j hj
    rw [e, ← fil_doK ds j ds.length (Nat.le_refl _), List.take_length]
  · have e : sumI (acD ds) = sumI (ds.map fun d => d.tw - d.fr) := hv.2
    rw [e]
    have : ∀ k, k ≤ ds.length → sumI ((ds.take k).map fun d => d.tw - d.fr) = atD ds k := by
      intro k
      induction k with
      | zero => intro _; simp [sumI_nil, atD_zero]
      | succ k ih =>
        intro hk
        have := V.bd k (by omega)
        rw [gDu_take_succ ds k (by omega), List.map_append, sumI_append, ih (by omega), atD_succ]
        simp only [List.map_cons, List.map_nil, sumI_cons, sumI_nil]
        omega
    have h2 := this ds.length (Nat.le_refl _)
    rw [List.take_length, V.e] at h2
    exact h2
/-- duties, of which the first k are less the shares -/
def ufK (ds : List Du) (sh : List Int) (k : Nat) : List Int := (List.range 40).map fun j : Nat => doK ds j ds.length - if j < k then gi sh j else 0
theorem ufK_len (ds : List Du) (sh : List Int) (k : Nat) : (ufK ds sh k).length = 40 := by simp [ufK]
theorem ufK_at (ds : List Du) (sh : List Int) (k j : Nat) (h : j < 40) : gi (ufK ds sh k) j = doK ds j ds.length - if j < k then gi sh j else 0 := by rw [ufK, gi_rmap _ _ _ h]
theorem ufK_zero {ds : List Du} {L : Int} (V : VD ds L) (sh : List Int) : acD ds = ufK ds sh 0 := by
  refine ext_gi (by rw [acD_len, ufK_len]) fun i hi => ?_
  rw [acD_len] at hi
  rw [(acD_ok V).1 i hi, ufK_at _ _ _ _ hi, if_neg (by omega)]
  omega
theorem ufK_succ (ds : List Du) (sh : List Int) (k : Nat) (h : k < 40) : ufK ds sh (k + 1) = (ufK ds sh k).set k (doK ds k ds.length - gi sh k) := by
  refine ext_gi (by rw [List.length_set, ufK_len, ufK_len]) fun i hi => ?_
  rw [ufK_len] at hi
  rw [gi_set0 _ _ _ _ (by rw [ufK_len]; exact h), ufK_at _ _ _ _ hi, ufK_at _ _ _ _ hi]
  by_cases e : i = k
  · subst e; rw [if_pos (by omega), if_pos rfl]
  · rw [if_neg e]
    by_cases e2 : i < k
    · rw [if_pos e2, if_pos (by omega)]
    · rw [if_neg e2, if_neg (by omega)]
def ufV (ds : List Du) (sh : List Int) (k : Nat) : List Int := (List.range k).map fun j : Nat => doK ds j ds.length - gi sh j
@[go_sem] theorem ufV_zero (ds : List Du) (sh : List Int) : ufV ds sh 0 = [] := _root_.id rfl
theorem ufV_len (ds : List Du) (sh : List Int) (k : Nat) : (ufV ds sh k).length = k := by simp [ufV]
theorem ufV_succ (ds : List Du) (sh : List Int) (k : Nat) : ufV ds sh (k + 1) = ufV ds sh k ++ [doK ds k ds.length - gi sh k] := by simp [ufV, List.range_succ]
theorem ufK_all (ds : List Du) (sh : List Int) : ufK ds sh 40 = ufV ds sh 40 := by
  refine ext_gi (by rw [ufK_len, ufV_len]) fun i hi => ?_
  rw [ufK_len] at hi
  rw [ufK_at _ _ _ _ hi, if_pos hi, ufV, gi_rmap _ _ _ hi]
theorem uf_sum {ds : List Du} {L : Int} (V : VD ds L) {sh : List Int} (F : ShF sh L) : wsum (ufV ds sh 40) = 0 := by
  have hb : ∀ x ∈ ufV ds sh 40, -300000 ≤ x ∧ x ≤ 300000 := fun x hx => by
    obtain ⟨j, hj, rfl⟩ := List.mem_map.1 hx
    have hj4 : j < 40 := List.mem_range.1 hj
    have h1 := doK_bd V (j : Int) ds.length (Nat.le_refl _)
    have h2 := F.le j hj4
    have h3 := F.nn j hj4
    omega
  have hs : sumI (ufV ds sh 40) = 0 := by
    unfold ufV
    rw [sumI_sub]
    have e1 : ((List.range 40).map fun j : Nat => doK ds j ds.length) = acD ds := ext_gi (by rw [acD_len]; simp) fun i hi => by
      simp only [List.length_map, List.length_range] at hi
      rw [gi_rmap _ _ _ hi, (acD_ok V).1 i hi]
    have e2 : ((List.range 40).map fun j : Nat => gi sh j) = sh := ext_gi (by rw [F.n]; simp) fun i hi => by
      simp only [List.length_map, List.length_range] at hi
      rw [gi_rmap _ _ _ hi]
    rw [e1, e2, (acD_ok V).2, F.s]
    omega
  rw [(wsum_eq _ 300000 (by omega) hb (by rw [ufV_len]; omega)).1, hs]
def udC (ds : List Du) (L : Int) (ps : List Pc) : Int := if vdB ds L = true ∧ okP ps = true then if ps.length = 0 then 3 else 0 else 1
theorem udC_ok {ds : List Du} {L : Int} {ps : List Pc} (h : udC ds L ps = 0) : VD ds L ∧ okP ps = true ∧ 0 < ps.length := by
  unfold udC at h
  split at h
  case isFalse => omega
  rename_i h1
  split at h
  · omega
  · exact ⟨(vdB_iff ds L).1 h1.1, h1.2, by omega⟩
def udL (ds : List Du) (L : Int) (ps : List Pc) : List Int := if udC ds L ps = 0 then ufV ds (shD ps L) 40 else []
set_option maxHeartbeats 4000000 in
theorem unfair_ok (ds : List Du) (L : Int) (ps : List Pc) (hl : ds.length ≤ 10000000) (hp : ps.length ≤ 10000000) : ACalls Try.prog 51 [.sl ds.length (cDu ds), I L, .sl ps.length (cPc ps)] [] (fun r o => r = .tup [.sl (udL ds L ps).length (ints (udL ds L ps)), I (udC ds L ps)] ∧ o = []) := by
  refine RowR.fz (ACalls.mono (Q := fun r o => r = .tup [.ref 0 0 (udL ds L ps).length, I (udC ds L ps)] ∧ o = [oI (udL ds L ps)]) ?_ fun r o h => .inl h)
  refine ACalls.of_vc Try.func51 rfl (by decide) 48 rfl [.tmp 6, .tmp 7] rfl (by simp) ?_
  (repeat (first | simp (maxSteps := 2000000) (disch := omega) only [go_sem, ↓reduceIte, Nat.reduceEqDiff, Nat.reduceAdd, Nat.reduceMul, Nat.reduceSub, Int.reduceToNat, Int.reduceAdd, Int.reduceSub, Int.reduceMul, Int.reduceNeg] | with_reducible refine vIf_t ?_ | with_reducible refine vIf_f ?_))
  (refine vCallX_of ?_; (repeat (first | simp (maxSteps := 2000000) (disch := omega) only [go_sem, ↓reduceIte, Nat.reduceEqDiff, Nat.reduceAdd, Nat.reduceMul, Nat.reduceSub, Int.reduceToNat, Int.reduceAdd, Int.reduceSub, Int.reduceMul, Int.reduceNeg] | with_reducible refine vIf_t ?_ | with_reducible refine vIf_f ?_)); refine vCall_eq (validD_ok ds L hl) (by simp (disch := omega) only [go_sem, Nat.reduceAdd]) rfl (by first | exact Or.inl rfl | exact Or.inr ⟨rfl, rfl⟩ | (apply Or.inr; simp only [go_sem])) ?_; (repeat (first | simp (maxSteps := 2000000) (disch := omega) only [go_sem, ↓reduceIte, Nat.reduceEqDiff, Nat.reduceAdd, Nat.reduceMul, Nat.reduceSub, Int.reduceToNat, Int.reduceAdd, Int.reduceSub, Int.reduceMul, Int.reduceNeg] | with_reducible refine vIf_t ?_ | with_reducible refine vIf_f ?_)))
  cases hv : vdB ds L with
  | false =>
    have ec : udC ds L ps = 1 := by simp [udC, hv]
    simp only [udL, ec]
    (repeat (first | simp (maxSteps := 2000000) (disch := omega) only [go_sem, ↓reduceIte, Nat.reduceEqDiff, Nat.reduceAdd, Nat.reduceMul, Nat.reduceSub, Int.reduceToNat, Int.reduceAdd, Int.reduceSub, Int.reduceMul, Int.reduceNeg, hv] | with_reducible refine vIf_t ?_ | with_reducible refine vIf_f ?_))
    (refine retK_of ?_; (repeat (first | simp (maxSteps := 2000000) (disch := omega) only [go_sem, ↓reduceIte, Nat.reduceEqDiff, Nat.reduceAdd, Nat.reduceMul, Nat.reduceSub, Int.reduceToNat, Int.reduceAdd, Int.reduceSub, Int.reduceMul, Int.reduceNeg] | with_reducible refine vIf_t ?_ | with_reducible refine vIf_f ?_)))
    simp [ints]
  | true =>
    have V := (vdB_iff ds L).1 hv
    (repeat (first | simp (maxSteps := 2000000) (disch := omega) only [go_sem, ↓reduceIte, Nat.reduceEqDiff, Nat.reduceAdd, Nat.reduceMul, Nat.reduceSub, Int.reduceToNat, Int.reduceAdd, Int.reduceSub, Int.reduceMul, Int.reduceNeg, hv] | with_reducible refine vIf_t ?_ | with_reducible refine vIf_f ?_))
    (refine vCallX_of ?_; (repeat (first | simp (maxSteps := 2000000) (disch := omega) only [go_sem, ↓reduceIte, Nat.reduceEqDiff, Nat.reduceAdd, Nat.reduceMul, Nat.reduceSub, Int.reduceToNat, Int.reduceAdd, Int.reduceSub, Int.reduceMul, Int.reduceNeg] | with_reducible refine vIf_t ?_ | with_reducible refine vIf_f ?_)); refine vCall_eq (validP_ok ps hp) (by simp (disch := omega) only [go_sem, Nat.reduceAdd]) rfl (by first | exact Or.inl rfl | exact Or.inr ⟨rfl, rfl⟩ | (apply Or.inr; simp only [go_sem])) ?_; (repeat (first | simp (maxSteps := 2000000) (disch := omega) only [go_sem, ↓reduceIte, Nat.reduceEqDiff, Nat.reduceAdd, Nat.reduceMul, Nat.reduceSub, Int.reduceToNat, Int.reduceAdd, Int.reduceSub, Int.reduceMul, Int.reduceNeg] | with_reducible refine vIf_t ?_ | with_reducible refine vIf_f ?_)))
    cases hok : okP ps with
    | false =>
      have ec : udC ds L ps = 1 := by simp [udC, hok]
      simp only [udL, ec]
      (repeat (first | simp (maxSteps := 2000000) (disch := omega) only [go_sem, ↓reduceIte, Nat.reduceEqDiff, Nat.reduceAdd, Nat.reduceMul, Nat.reduceSub, Int.reduceToNat, Int.reduceAdd, Int.reduceSub, Int.reduceMul, Int.reduceNeg, hok] | with_reducible refine vIf_t ?_ | with_reducible refine vIf_f ?_))
      (refine retK_of ?_; (repeat (first | simp (maxSteps := 2000000) (disch := omega) only [go_sem, ↓reduceIte, Nat.reduceEqDiff, Nat.reduceAdd, Nat.reduceMul, Nat.reduceSub, Int.reduceToNat, Int.reduceAdd, Int.reduceSub, Int.reduceMul, Int.reduceNeg] | with_reducible refine vIf_t ?_ | with_reducible refine vIf_f ?_)))
      simp [ints]
    | true =>
      (repeat (first | simp (maxSteps := 2000000) (disch := omega) only [go_sem, ↓reduceIte, Nat.reduceEqDiff, Nat.reduceAdd, Nat.reduceMul, Nat.reduceSub, Int.reduceToNat, Int.reduceAdd, Int.reduceSub, Int.reduceMul, Int.reduceNeg, hok] | with_reducible refine vIf_t ?_ | with_reducible refine vIf_f ?_))
      refine vIf_beq (fun h3 => ?_) (fun h3 => ?_)
      · have ec : udC ds L ps = 3 := by rw [udC, if_pos ⟨hv, hok⟩, if_pos (by omega)]
        simp only [udL, ec]
        (repeat (first | simp (maxSteps := 2000000) (disch := omega) only [go_sem, ↓reduceIte, Nat.reduceEqDiff, Nat.reduceAdd, Nat.reduceMul, Nat.reduceSub, Int.reduceToNat, Int.reduceAdd, Int.reduceSub, Int.reduceMul, Int.reduceNeg] | with_reducible refine vIf_t ?_ | with_reducible refine vIf_f ?_))
        (refine retK_of ?_; (repeat (first | simp (maxSteps := 2000000) (disch := omega) only [go_sem, ↓reduceIte, Nat.reduceEqDiff, Nat.reduceAdd, Nat.reduceMul, Nat.reduceSub, Int.reduceToNat, Int.reduceAdd, Int.reduceSub, Int.reduceMul, Int.reduceNeg] | with_reducible refine vIf_t ?_ | with_reducible refine vIf_f ?_)))
        simp [ints]
      · have ec : udC ds L ps = 0 := by rw [udC, if_pos ⟨hv, hok⟩, if_neg (by omega)]
        have hn : 0 < ps.length := by omega
        have hL := V.l
        have F := shD_ok hok hn L hL
        have hs := shares_ok ps hok hn L hL
        simp only [udL, ec, if_true, ufV_len]
        (repeat (first | simp (maxSteps := 2000000) (disch := omega) only [go_sem, ↓reduceIte, Nat.reduceEqDiff, Nat.reduceAdd, Nat.reduceMul, Nat.reduceSub, Int.reduceToNat, Int.reduceAdd, Int.reduceSub, Int.reduceMul, Int.reduceNeg] | with_reducible refine vIf_t ?_ | with_reducible refine vIf_f ?_))
        (refine vCallX_of ?_; (repeat (first | simp (maxSteps := 2000000) (disch := omega) only [go_sem, ↓reduceIte, Nat.reduceEqDiff, Nat.reduceAdd, Nat.reduceMul, Nat.reduceSub, Int.reduceToNat, Int.reduceAdd, Int.reduceSub, Int.reduceMul, Int.reduceNeg] | with_reducible refine vIf_t ?_ | with_reducible refine vIf_f ?_)); refine vCall_eq (areasO_ok ps hok) (by simp (disch := omega) only [go_sem, Nat.reduceAdd]) rfl (by first | exact Or.inl rfl | exact Or.inr ⟨rfl, rfl⟩ | (apply Or.inr; simp only [go_sem])) ?_; (repeat (first | simp (maxSteps := 2000000) (disch := omega) only [go_sem, ↓reduceIte, Nat.reduceEqDiff, Nat.reduceAdd, Nat.reduceMul, Nat.reduceSub, Int.reduceToNat, Int.reduceAdd, Int.reduceSub, Int.reduceMul, Int.reduceNeg] | with_reducible refine vIf_t ?_ | with_reducible refine vIf_f ?_)))
        (refine vCallX_fz 1 _ rfl (by (repeat (first | simp (maxSteps := 2000000) (disch := omega) only [go_sem, ↓reduceIte, Nat.reduceEqDiff, Nat.reduceAdd, Nat.reduceMul, Nat.reduceSub, Int.reduceToNat, Int.reduceAdd, Int.reduceSub, Int.reduceMul, Int.reduceNeg] | with_reducible refine vIf_t ?_ | with_reducible refine vIf_f ?_))) ?_; (repeat (first | simp (maxSteps := 2000000) (disch := omega) only [go_sem, ↓reduceIte, Nat.reduceEqDiff, Nat.reduceAdd, Nat.reduceMul, Nat.reduceSub, Int.reduceToNat, Int.reduceAdd, Int.reduceSub, Int.reduceMul, Int.reduceNeg] | with_reducible refine vIf_t ?_ | with_reducible refine vIf_f ?_)))
        (refine vCallX_of ?_; (repeat (first | simp (maxSteps := 2000000) (disch := omega) only [go_sem, ↓reduceIte, Nat.reduceEqDiff, Nat.reduceAdd, Nat.reduceMul, Nat.reduceSub, Int.reduceToNat, Int.reduceAdd, Int.reduceSub, Int.reduceMul, Int.reduceNeg] | with_reducible refine vIf_t ?_ | with_reducible refine vIf_f ?_)); refine vCall_eq (hs) (by simp (disch := omega) only [go_sem, Nat.reduceAdd]) rfl (by first | exact Or.inl rfl | exact Or.inr ⟨rfl, rfl⟩ | (apply Or.inr; simp only [go_sem])) ?_; (repeat (first | simp (maxSteps := 2000000) (disch := omega) only [go_sem, ↓reduceIte, Nat.reduceEqDiff, Nat.reduceAdd, Nat.reduceMul, Nat.reduceSub, Int.reduceToNat, Int.reduceAdd, Int.reduceSub, Int.reduceMul, Int.reduceNeg] | with_reducible refine vIf_t ?_ | with_reducible refine vIf_f ?_)))
        have hsl := F.n
        generalize shD ps L = sh at *
        refine vcLoop_invF (fun k : Nat => k ≤ 40) (fun k => ⟨48, 0, [(33, I k), (0, .sl ds.length (cDu ds)), (8, .ref 0 0 k), (31, .ref 1 0 40), (32, I 40)], [oI (ufV ds sh k), oI sh]⟩) (fun k => 40 - k) 0 (by omega) (by (first | (refine leF_s ?_; ((repeat (first | simp (maxSteps := 2000000) (disch := omega) only [go_sem, ↓reduceIte, Nat.reduceEqDiff, Nat.reduceAdd, Nat.reduceMul, Nat.reduceSub, Int.reduceToNat, Int.reduceAdd, Int.reduceSub, Int.reduceMul, Int.reduceNeg] | with_reducible refine vIf_t ?_ | with_reducible refine vIf_f ?_)); all_goals (try simp); all_goals (try omega)); done) | (refine leF_p ?_; ((repeat (first | simp (maxSteps := 2000000) (disch := omega) only [go_sem, ↓reduceIte, Nat.reduceEqDiff, Nat.reduceAdd, Nat.reduceMul, Nat.reduceSub, Int.reduceToNat, Int.reduceAdd, Int.reduceSub, Int.reduceMul, Int.reduceNeg] | with_reducible refine vIf_t ?_ | with_reducible refine vIf_f ?_)); all_goals (try simp); all_goals (try omega)); done))) ?_
        intro k hk
        have hul := ufV_len ds sh k
        (repeat (first | simp (maxSteps := 2000000) (disch := omega) only [go_sem, ↓reduceIte, Nat.reduceEqDiff, Nat.reduceAdd, Nat.reduceMul, Nat.reduceSub, Int.reduceToNat, Int.reduceAdd, Int.reduceSub, Int.reduceMul, Int.reduceNeg] | with_reducible refine vIf_t ?_ | with_reducible refine vIf_f ?_))
        refine vIf_dec (fun hh => ?_) (fun hh => ?_)
        · have hkl : k < 40 := by omega
          have h1 := doK_bd V (k : Int) ds.length (Nat.le_refl _)
          have h2 := F.le k hkl
          have h3 := F.nn k hkl
          have hw : IntKind.wrap .i64 (doK ds k ds.length - gi sh k) = doK ds k ds.length - gi sh k := by simp [IntKind.wrap, IntKind.bits, IntKind.signed]; omega
          have he := ufV_succ ds sh k
          (repeat (first | simp (maxSteps := 2000000) (disch := omega) only [go_sem, ↓reduceIte, Nat.reduceEqDiff, Nat.reduceAdd, Nat.reduceMul, Nat.reduceSub, Int.reduceToNat, Int.reduceAdd, Int.reduceSub, Int.reduceMul, Int.reduceNeg, hsl] | with_reducible refine vIf_t ?_ | with_reducible refine vIf_f ?_))
          (refine vCallX_of ?_; (repeat (first | simp (maxSteps := 2000000) (disch := omega) only [go_sem, ↓reduceIte, Nat.reduceEqDiff, Nat.reduceAdd, Nat.reduceMul, Nat.reduceSub, Int.reduceToNat, Int.reduceAdd, Int.reduceSub, Int.reduceMul, Int.reduceNeg] | with_reducible refine vIf_t ?_ | with_reducible refine vIf_f ?_)); refine vCall_eq (dutyOfK_ok ds L k V) (by simp (disch := omega) only [go_sem, Nat.reduceAdd]) rfl (by first | exact Or.inl rfl | exact Or.inr ⟨rfl, rfl⟩ | (apply Or.inr; simp only [go_sem])) ?_; (repeat (first | simp (maxSteps := 2000000) (disch := omega) only [go_sem, ↓reduceIte, Nat.reduceEqDiff, Nat.reduceAdd, Nat.reduceMul, Nat.reduceSub, Int.reduceToNat, Int.reduceAdd, Int.reduceSub, Int.reduceMul, Int.reduceNeg] | with_reducible refine vIf_t ?_ | with_reducible refine vIf_f ?_)))
          (repeat (first | simp (maxSteps := 2000000) (disch := omega) only [go_sem, ↓reduceIte, Nat.reduceEqDiff, Nat.reduceAdd, Nat.reduceMul, Nat.reduceSub, Int.reduceToNat, Int.reduceAdd, Int.reduceSub, Int.reduceMul, Int.reduceNeg, hw, hul, ← he] | with_reducible refine vIf_t ?_ | with_reducible refine vIf_f ?_))
          refine againF (k + 1) ?_ ?_ (by (first | (refine leF_s ?_; ((repeat (first | simp (maxSteps := 2000000) (disch := omega) only [go_sem, ↓reduceIte, Nat.reduceEqDiff, Nat.reduceAdd, Nat.reduceMul, Nat.reduceSub, Int.reduceToNat, Int.reduceAdd, Int.reduceSub, Int.reduceMul, Int.reduceNeg] | with_reducible refine vIf_t ?_ | with_reducible refine vIf_f ?_)); all_goals (try simp); all_goals (try omega)); done) | (refine leF_p ?_; ((repeat (first | simp (maxSteps := 2000000) (disch := omega) only [go_sem, ↓reduceIte, Nat.reduceEqDiff, Nat.reduceAdd, Nat.reduceMul, Nat.reduceSub, Int.reduceToNat, Int.reduceAdd, Int.reduceSub, Int.reduceMul, Int.reduceNeg] | with_reducible refine vIf_t ?_ | with_reducible refine vIf_f ?_)); all_goals (try simp); all_goals (try omega)); done)))
          · omega
          · omega
        · have hke : k = 40 := by omega
          subst hke
          (repeat (first | simp (maxSteps := 2000000) (disch := omega) only [go_sem, ↓reduceIte, Nat.reduceEqDiff, Nat.reduceAdd, Nat.reduceMul, Nat.reduceSub, Int.reduceToNat, Int.reduceAdd, Int.reduceSub, Int.reduceMul, Int.reduceNeg] | with_reducible refine vIf_t ?_ | with_reducible refine vIf_f ?_))
          (refine retK_of ?_; (repeat (first | simp (maxSteps := 2000000) (disch := omega) only [go_sem, ↓reduceIte, Nat.reduceEqDiff, Nat.reduceAdd, Nat.reduceMul, Nat.reduceSub, Int.reduceToNat, Int.reduceAdd, Int.reduceSub, Int.reduceMul, Int.reduceNeg] | with_reducible refine vIf_t ?_ | with_reducible refine vIf_f ?_)))
set_option maxHeartbeats 4000000 in
theorem unfairS_ok (ds : List Du) (L : Int) (ps : List Pc) (hl : ds.length ≤ 10000000) (hp : ps.length ≤ 10000000) : ACalls Try.prog 52 [.sl ds.length (cDu ds), I L, .sl ps.length (cPc ps)] [] (fun r o => r = .tup [.sl (udL ds L ps).length (ints (udL ds L ps)), I (udC ds L ps)] ∧ o = []) := by
  refine RowR.fz ?_
  unfold RowR
  refine ACalls.of_vc Try.func52 rfl (by decide) 72 rfl [.tmp 6, .tmp 7] rfl (by simp) ?_
  (repeat (first | simp (maxSteps := 2000000) (disch := omega) only [go_sem, ↓reduceIte, Nat.reduceEqDiff, Nat.reduceAdd, Nat.reduceMul, Nat.reduceSub, Int.reduceToNat, Int.reduceAdd, Int.reduceSub, Int.reduceMul, Int.reduceNeg] | with_reducible refine vIf_t ?_ | with_reducible refine vIf_f ?_))
  (refine vCallX_of ?_; (repeat (first | simp (maxSteps := 2000000) (disch := omega) only [go_sem, ↓reduceIte, Nat.reduceEqDiff, Nat.reduceAdd, Nat.reduceMul, Nat.reduceSub, Int.reduceToNat, Int.reduceAdd, Int.reduceSub, Int.reduceMul, Int.reduceNeg] | with_reducible refine vIf_t ?_ | with_reducible refine vIf_f ?_)); refine vCall_eq (l21Ok_ok ds L hl) (by simp (disch := omega) only [go_sem, Nat.reduceAdd]) rfl (by first | exact Or.inl rfl | exact Or.inr ⟨rfl, rfl⟩ | (apply Or.inr; simp only [go_sem])) ?_; (repeat (first | simp (maxSteps := 2000000) (disch := omega) only [go_sem, ↓reduceIte, Nat.reduceEqDiff, Nat.reduceAdd, Nat.reduceMul, Nat.reduceSub, Int.reduceToNat, Int.reduceAdd, Int.reduceSub, Int.reduceMul, Int.reduceNeg] | with_reducible refine vIf_t ?_ | with_reducible refine vIf_f ?_)))
  cases hv : vdB ds L with
  | false =>
    have ec : udC ds L ps = 1 := by simp [udC, hv]
    simp only [udL, ec]
    (repeat (first | simp (maxSteps := 2000000) (disch := omega) only [go_sem, ↓reduceIte, Nat.reduceEqDiff, Nat.reduceAdd, Nat.reduceMul, Nat.reduceSub, Int.reduceToNat, Int.reduceAdd, Int.reduceSub, Int.reduceMul, Int.reduceNeg, hv] | with_reducible refine vIf_t ?_ | with_reducible refine vIf_f ?_))
    (refine retK_of ?_; (repeat (first | simp (maxSteps := 2000000) (disch := omega) only [go_sem, ↓reduceIte, Nat.reduceEqDiff, Nat.reduceAdd, Nat.reduceMul, Nat.reduceSub, Int.reduceToNat, Int.reduceAdd, Int.reduceSub, Int.reduceMul, Int.reduceNeg] | with_reducible refine vIf_t ?_ | with_reducible refine vIf_f ?_)))
    first | exact trivial | (simp; done)
  | true =>
    have V := (vdB_iff ds L).1 hv
    (repeat (first | simp (maxSteps := 2000000) (disch := omega) only [go_sem, ↓reduceIte, Nat.reduceEqDiff, Nat.reduceAdd, Nat.reduceMul, Nat.reduceSub, Int.reduceToNat, Int.reduceAdd, Int.reduceSub, Int.reduceMul, Int.reduceNeg, hv] | with_reducible refine vIf_t ?_ | with_reducible refine vIf_f ?_))
    (refine vCallX_of ?_; (repeat (first | simp (maxSteps := 2000000) (disch := omega) only [go_sem, ↓reduceIte, Nat.reduceEqDiff, Nat.reduceAdd, Nat.reduceMul, Nat.reduceSub, Int.reduceToNat, Int.reduceAdd, Int.reduceSub, Int.reduceMul, Int.reduceNeg] | with_reducible refine vIf_t ?_ | with_reducible refine vIf_f ?_)); refine vCall_eq (l19Ok_ok ps hp) (by simp (disch := omega) only [go_sem, Nat.reduceAdd]) rfl (by first | exact Or.inl rfl | exact Or.inr ⟨rfl, rfl⟩ | (apply Or.inr; simp only [go_sem])) ?_; (repeat (first | simp (maxSteps := 2000000) (disch := omega) only [go_sem, ↓reduceIte, Nat.reduceEqDiff, Nat.reduceAdd, Nat.reduceMul, Nat.reduceSub, Int.reduceToNat, Int.reduceAdd, Int.reduceSub, Int.reduceMul, Int.reduceNeg] | with_reducible refine vIf_t ?_ | with_reducible refine vIf_f ?_)))
    cases hok : okP ps with
    | false =>
      have ec : udC ds L ps = 1 := by simp [udC, hok]
      simp only [udL, ec]
      (repeat (first | simp (maxSteps := 2000000) (disch := omega) only [go_sem, ↓reduceIte, Nat.reduceEqDiff, Nat.reduceAdd, Nat.reduceMul, Nat.reduceSub, Int.reduceToNat, Int.reduceAdd, Int.reduceSub, Int.reduceMul, Int.reduceNeg, hok] | with_reducible refine vIf_t ?_ | with_reducible refine vIf_f ?_))
      (refine retK_of ?_; (repeat (first | simp (maxSteps := 2000000) (disch := omega) only [go_sem, ↓reduceIte, Nat.reduceEqDiff, Nat.reduceAdd, Nat.reduceMul, Nat.reduceSub, Int.reduceToNat, Int.reduceAdd, Int.reduceSub, Int.reduceMul, Int.reduceNeg] | with_reducible refine vIf_t ?_ | with_reducible refine vIf_f ?_)))
      first | exact trivial | (simp; done)
    | true =>
      (repeat (first | simp (maxSteps := 2000000) (disch := omega) only [go_sem, ↓reduceIte, Nat.reduceEqDiff, Nat.reduceAdd, Nat.reduceMul, Nat.reduceSub, Int.reduceToNat, Int.reduceAdd, Int.reduceSub, Int.reduceMul, Int.reduceNeg, hok] | with_reducible refine vIf_t ?_ | with_reducible refine vIf_f ?_))
      refine vIf_beq (fun h3 => ?_) (fun h3 => ?_)
      · have ec : udC ds L ps = 3 := by rw [udC, if_pos ⟨hv, hok⟩, if_pos (by omega)]
        simp only [udL, ec]
        (repeat (first | simp (maxSteps := 2000000) (disch := omega) only [go_sem, ↓reduceIte, Nat.reduceEqDiff, Nat.reduceAdd, Nat.reduceMul, Nat.reduceSub, Int.reduceToNat, Int.reduceAdd, Int.reduceSub, Int.reduceMul, Int.reduceNeg] | with_reducible refine vIf_t ?_ | with_reducible refine vIf_f ?_))
        (refine retK_of ?_; (repeat (first | simp (maxSteps := 2000000) (disch := omega) only [go_sem, ↓reduceIte, Nat.reduceEqDiff, Nat.reduceAdd, Nat.reduceMul, Nat.reduceSub, Int.reduceToNat, Int.reduceAdd, Int.reduceSub, Int.reduceMul, Int.reduceNeg] | with_reducible refine vIf_t ?_ | with_reducible refine vIf_f ?_)))
        first | exact trivial | (simp; done)
      · have ec : udC ds L ps = 0 := by rw [udC, if_pos ⟨hv, hok⟩, if_neg (by omega)]
        have hn : 0 < ps.length := by omega
        have hL := V.l
        have F := shD_ok hok hn L hL
        have hs := l21Shares_ok ps hok hn L hL
        simp only [udL, ec, if_true, ufV_len]
        (repeat (first | simp (maxSteps := 2000000) (disch := omega) only [go_sem, ↓reduceIte, Nat.reduceEqDiff, Nat.reduceAdd, Nat.reduceMul, Nat.reduceSub, Int.reduceToNat, Int.reduceAdd, Int.reduceSub, Int.reduceMul, Int.reduceNeg] | with_reducible refine vIf_t ?_ | with_reducible refine vIf_f ?_))
        refine vcLoop_invF (fun k : Nat => k ≤ ds.length) (fun k => ⟨72, 0, [(9, I k), (0, .sl ds.length (cDu ds)), (8, .ref 0 0 40), (1, I L), (2, .sl ps.length (cPc ps))], [oI (acD (ds.take k))]⟩) (fun k => ds.length - k) 0 (by omega) (by refine leF_s ?_; (repeat (first | simp (maxSteps := 2000000) (disch := omega) only [go_sem, ↓reduceIte, Nat.reduceEqDiff, Nat.reduceAdd, Nat.reduceMul, Nat.reduceSub, Int.reduceToNat, Int.reduceAdd, Int.reduceSub, Int.reduceMul, Int.reduceNeg, List.take_zero, acD, acc_nil] | with_reducible refine vIf_t ?_ | with_reducible refine vIf_f ?_))) ?_
        intro k hk
        have hlen := acD_len (ds.take k)
        (repeat (first | simp (maxSteps := 2000000) (disch := omega) only [go_sem, ↓reduceIte, Nat.reduceEqDiff, Nat.reduceAdd, Nat.reduceMul, Nat.reduceSub, Int.reduceToNat, Int.reduceAdd, Int.reduceSub, Int.reduceMul, Int.reduceNeg] | with_reducible refine vIf_t ?_ | with_reducible refine vIf_f ?_))
        refine vIf_dec (fun h => ?_) (fun h => ?_)
        · have hkl : k < ds.length := by omega
          have o1 := V.bd k hkl
          have hn : (gDu ds k).owner.toNat < 40 := by omega
          have he := acD_take ds k hkl hn
          have hw : IntKind.wrap .i64 ((gDu ds k).tw - (gDu ds k).fr) = (gDu ds k).tw - (gDu ds k).fr := by simp [IntKind.wrap, IntKind.bits, IntKind.signed]; omega
          (repeat (first | simp (maxSteps := 2000000) (disch := omega) only [go_sem, ↓reduceIte, Nat.reduceEqDiff, Nat.reduceAdd, Nat.reduceMul, Nat.reduceSub, Int.reduceToNat, Int.reduceAdd, Int.reduceSub, Int.reduceMul, Int.reduceNeg] | with_reducible refine vIf_t ?_ | with_reducible refine vIf_f ?_))
          (refine vDraw_sch 19 [(0, false), (1, false), (2, false), (3, false), (4, false), (8, false), (9, false), (10, false), (11, false), (13, false), (14, false), (15, false), (16, false), (5, false), (6, false), (7, false), (12, false), (17, true), (18, false)] mixed (by kernel_rfl) ?_; simp only [List.cons_append, List.nil_append, List.map_cons, List.map_nil, nthO_zero, nthO_succ, List.drop_succ_cons, List.drop_zero, List.drop_nil]; (repeat (first | simp (maxSteps := 2000000) (disch := omega) only [go_sem, ↓reduceIte, Nat.reduceEqDiff, Nat.reduceAdd, Nat.reduceMul, Nat.reduceSub, Int.reduceToNat, Int.reduceAdd, Int.reduceSub, Int.reduceMul, Int.reduceNeg] | with_reducible refine vIf_t ?_ | with_reducible refine vIf_f ?_)))
          (try (repeat (first | simp (maxSteps := 2000000) (disch := omega) only [go_sem, ↓reduceIte, Nat.reduceEqDiff, Nat.reduceAdd, Nat.reduceMul, Nat.reduceSub, Int.reduceToNat, Int.reduceAdd, Int.reduceSub, Int.reduceMul, Int.reduceNeg, hlen, hw] | with_reducible refine vIf_t ?_ | with_reducible refine vIf_f ?_)))
          refine againF (k + 1) (by omega) (by omega) ?_
          rw [he]
          (first | (refine leF_s ?_; ((repeat (first | simp (maxSteps := 2000000) (disch := omega) only [go_sem, ↓reduceIte, Nat.reduceEqDiff, Nat.reduceAdd, Nat.reduceMul, Nat.reduceSub, Int.reduceToNat, Int.reduceAdd, Int.reduceSub, Int.reduceMul, Int.reduceNeg] | with_reducible refine vIf_t ?_ | with_reducible refine vIf_f ?_)); all_goals (try simp); all_goals (try omega)); done) | (refine leF_p ?_; ((repeat (first | simp (maxSteps := 2000000) (disch := omega) only [go_sem, ↓reduceIte, Nat.reduceEqDiff, Nat.reduceAdd, Nat.reduceMul, Nat.reduceSub, Int.reduceToNat, Int.reduceAdd, Int.reduceSub, Int.reduceMul, Int.reduceNeg] | with_reducible refine vIf_t ?_ | with_reducible refine vIf_f ?_)); all_goals (try simp); all_goals (try omega)); done))
        · rw [List.take_of_length_le (by omega), ufK_zero V (shD ps L)]
          (repeat (first | simp (maxSteps := 2000000) (disch := omega) only [go_sem, ↓reduceIte, Nat.reduceEqDiff, Nat.reduceAdd, Nat.reduceMul, Nat.reduceSub, Int.reduceToNat, Int.reduceAdd, Int.reduceSub, Int.reduceMul, Int.reduceNeg] | with_reducible refine vIf_t ?_ | with_reducible refine vIf_f ?_))
          (refine vCallX_of ?_; (repeat (first | simp (maxSteps := 2000000) (disch := omega) only [go_sem, ↓reduceIte, Nat.reduceEqDiff, Nat.reduceAdd, Nat.reduceMul, Nat.reduceSub, Int.reduceToNat, Int.reduceAdd, Int.reduceSub, Int.reduceMul, Int.reduceNeg] | with_reducible refine vIf_t ?_ | with_reducible refine vIf_f ?_)); refine vCall_eq (hs) (by simp (disch := omega) only [go_sem, Nat.reduceAdd]) rfl (by first | exact Or.inl rfl | exact Or.inr ⟨rfl, rfl⟩ | (apply Or.inr; simp only [go_sem])) ?_; (repeat (first | simp (maxSteps := 2000000) (disch := omega) only [go_sem, ↓reduceIte, Nat.reduceEqDiff, Nat.reduceAdd, Nat.reduceMul, Nat.reduceSub, Int.reduceToNat, Int.reduceAdd, Int.reduceSub, Int.reduceMul, Int.reduceNeg] | with_reducible refine vIf_t ?_ | with_reducible refine vIf_f ?_)))
          have hsl := F.n
          generalize shD ps L = sh at *
          refine vcLoop_invF (fun k : Nat => k ≤ 40) (fun k => ⟨72, 0, [(11, I k), (10, .ref 0 0 40), (8, .ref 1 0 40)], [oI sh, oI (ufK ds sh k)]⟩) (fun k => 40 - k) 0 (by omega) (by (first | (refine leF_s ?_; ((repeat (first | simp (maxSteps := 2000000) (disch := omega) only [go_sem, ↓reduceIte, Nat.reduceEqDiff, Nat.reduceAdd, Nat.reduceMul, Nat.reduceSub, Int.reduceToNat, Int.reduceAdd, Int.reduceSub, Int.reduceMul, Int.reduceNeg] | with_reducible refine vIf_t ?_ | with_reducible refine vIf_f ?_)); all_goals (try simp); all_goals (try omega)); done) | (refine leF_p ?_; ((repeat (first | simp (maxSteps := 2000000) (disch := omega) only [go_sem, ↓reduceIte, Nat.reduceEqDiff, Nat.reduceAdd, Nat.reduceMul, Nat.reduceSub, Int.reduceToNat, Int.reduceAdd, Int.reduceSub, Int.reduceMul, Int.reduceNeg] | with_reducible refine vIf_t ?_ | with_reducible refine vIf_f ?_)); all_goals (try simp); all_goals (try omega)); done))) ?_
          intro k hk
          have hul := ufK_len ds sh k
          (repeat (first | simp (maxSteps := 2000000) (disch := omega) only [go_sem, ↓reduceIte, Nat.reduceEqDiff, Nat.reduceAdd, Nat.reduceMul, Nat.reduceSub, Int.reduceToNat, Int.reduceAdd, Int.reduceSub, Int.reduceMul, Int.reduceNeg, hsl] | with_reducible refine vIf_t ?_ | with_reducible refine vIf_f ?_))
          refine vIf_dec (fun hh => ?_) (fun hh => ?_)
          · have hkl : k < 40 := by omega
            have h1 := doK_bd V (k : Int) ds.length (Nat.le_refl _)
            have h2 := F.le k hkl
            have h3 := F.nn k hkl
            have ea := ufK_at ds sh k k hkl
            rw [if_neg (by omega), Int.sub_zero] at ea
            have hw : IntKind.wrap .i64 (doK ds k ds.length - gi sh k) = doK ds k ds.length - gi sh k := by simp [IntKind.wrap, IntKind.bits, IntKind.signed]; omega
            have he := ufK_succ ds sh k hkl
            (repeat (first | simp (maxSteps := 2000000) (disch := omega) only [go_sem, ↓reduceIte, Nat.reduceEqDiff, Nat.reduceAdd, Nat.reduceMul, Nat.reduceSub, Int.reduceToNat, Int.reduceAdd, Int.reduceSub, Int.reduceMul, Int.reduceNeg] | with_reducible refine vIf_t ?_ | with_reducible refine vIf_f ?_))
            (refine vDraw_sch 8 [(0, false), (1, false), (2, false), (4, false), (5, false), (6, false), (3, false), (7, true)] mixed (by kernel_rfl) ?_; simp only [List.cons_append, List.nil_append, List.map_cons, List.map_nil, nthO_zero, nthO_succ, List.drop_succ_cons, List.drop_zero, List.drop_nil]; (repeat (first | simp (maxSteps := 2000000) (disch := omega) only [go_sem, ↓reduceIte, Nat.reduceEqDiff, Nat.reduceAdd, Nat.reduceMul, Nat.reduceSub, Int.reduceToNat, Int.reduceAdd, Int.reduceSub, Int.reduceMul, Int.reduceNeg] | with_reducible refine vIf_t ?_ | with_reducible refine vIf_f ?_)))
            (try (repeat (first | simp (maxSteps := 2000000) (disch := omega) only [go_sem, ↓reduceIte, Nat.reduceEqDiff, Nat.reduceAdd, Nat.reduceMul, Nat.reduceSub, Int.reduceToNat, Int.reduceAdd, Int.reduceSub, Int.reduceMul, Int.reduceNeg, hsl, hul, ea, hw, ← he] | with_reducible refine vIf_t ?_ | with_reducible refine vIf_f ?_)))
            refine againF (k + 1) ?_ ?_ (by (first | (refine leF_s ?_; ((repeat (first | simp (maxSteps := 2000000) (disch := omega) only [go_sem, ↓reduceIte, Nat.reduceEqDiff, Nat.reduceAdd, Nat.reduceMul, Nat.reduceSub, Int.reduceToNat, Int.reduceAdd, Int.reduceSub, Int.reduceMul, Int.reduceNeg] | with_reducible refine vIf_t ?_ | with_reducible refine vIf_f ?_)); all_goals (try simp); all_goals (try omega)); done) | (refine leF_p ?_; ((repeat (first | simp (maxSteps := 2000000) (disch := omega) only [go_sem, ↓reduceIte, Nat.reduceEqDiff, Nat.reduceAdd, Nat.reduceMul, Nat.reduceSub, Int.reduceToNat, Int.reduceAdd, Int.reduceSub, Int.reduceMul, Int.reduceNeg] | with_reducible refine vIf_t ?_ | with_reducible refine vIf_f ?_)); all_goals (try simp); all_goals (try omega)); done)))
            · omega
            · omega
          · have hke : k = 40 := by omega
            subst hke
            rw [ufK_all]
            (repeat (first | simp (maxSteps := 2000000) (disch := omega) only [go_sem, ↓reduceIte, Nat.reduceEqDiff, Nat.reduceAdd, Nat.reduceMul, Nat.reduceSub, Int.reduceToNat, Int.reduceAdd, Int.reduceSub, Int.reduceMul, Int.reduceNeg] | with_reducible refine vIf_t ?_ | with_reducible refine vIf_f ?_))
            (refine retK_of ?_; (repeat (first | simp (maxSteps := 2000000) (disch := omega) only [go_sem, ↓reduceIte, Nat.reduceEqDiff, Nat.reduceAdd, Nat.reduceMul, Nat.reduceSub, Int.reduceToNat, Int.reduceAdd, Int.reduceSub, Int.reduceMul, Int.reduceNeg] | with_reducible refine vIf_t ?_ | with_reducible refine vIf_f ?_)))
            first | exact trivial | (simp; done)
end Go.Proofs.Ythnphcinjchloaa

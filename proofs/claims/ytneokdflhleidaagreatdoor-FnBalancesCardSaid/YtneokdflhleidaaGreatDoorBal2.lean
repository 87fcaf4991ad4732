/- balances: water read back from any text -/
import Derived.Test.YtneokdflhleidaaGreatDoorBal1
set_option linter.unusedVariables false
set_option linter.unusedSimpArgs false
namespace Go.Proofs.YtneokdflhleidaaGreatDoor
open Go.AG Go.Lib

attribute [local go_sem] beq_self_eq_true bne_self_eq_false Bool.not_true
def mkW (ns : List Int) : Wt := ⟨gi ns 0, gi ns 1, gi ns 2, gi ns 3, gi ns 4⟩
/-- the water that a text is -/
def rwO (l : List UInt8) : Option Wt := if (nums l).length = 5 ∧ wtB (mkW (nums l)) = true ∧ wtT (mkW (nums l)) = l then some (mkW (nums l)) else none
theorem rwO_iff (l : List UInt8) (p : Wt) : rwO l = some p ↔ wtB p = true ∧ wtT p = l := by
  unfold rwO
  constructor
  · intro h
    split at h
    · rename_i hc
      simp only [Option.some.injEq] at h
      subst h
      exact ⟨hc.2.1, hc.2.2⟩
    · simp at h
  · rintro ⟨h1, rfl⟩
    have hn := wtT_nums (wtO_of (wtB_f h1))
    have hm : mkW (wtA p) = p := rfl
    rw [hn, hm, if_pos ⟨rfl, h1, rfl⟩]
def rwV : Option Wt → V
  | none => .tup [.agg [I 0, I 0, I 0, I 0, I 0], B false]
  | some p => .tup [.agg p.cells, B true]
set_option maxRecDepth 20000 in
set_option maxHeartbeats 4000000 in
theorem readWater_ok (l : List UInt8) (ha : Asc l) (hl : l.length ≤ 10000) : ACalls Tryz.prog 20 [St (tx l)] [] (fun r o => r = rwV (rwO l) ∧ o = []) := by
  refine ACalls.of_vc Tryz.func20 rfl (by decide) 39 rfl [.cell 2 35, .tmp 3] rfl (by simp) ?_
  have hnum := numbersX_ok l ha (by omega)
  have hnl := (nums_ok l).1
  have hfl := flG_len pn l none
  by_cases h5 : (nums l).length = 5
  · have c5 : (((nums l).length : Int) != 5) = false := by simp; omega
    generalize hp : mkW (nums l) = p
    have hv := validWt_ok p
    have ht := waterText_ok p
    have g0 : gi (nums l) 0 = p.rain := by rw [← hp]; rfl
    have g1 : gi (nums l) 1 = p.seep := by rw [← hp]; rfl
    have g2 : gi (nums l) 2 = p.evap := by rw [← hp]; rfl
    have g3 : gi (nums l) 3 = p.pump := by rw [← hp]; rfl
    have g4 : gi (nums l) 4 = p.slu := by rw [← hp]; rfl
    have er : rwO l = if wtB p = true ∧ wtT p = l then some p else none := by
      unfold rwO
      rw [hp]
      by_cases h : wtB p = true ∧ wtT p = l
      · rw [if_pos ⟨h5, h⟩, if_pos h]
      · rw [if_neg (fun e => h e.2), if_neg h]
    generalize hns : nums l = ns at *
    unfold Wt.cells at hv ht
    (repeat (first | simp (maxSteps := 2000000) (disch := omega) only [go_sem, ↓reduceIte, Nat.reduceEqDiff, Nat.reduceAdd, Nat.reduceMul, Nat.reduceSub, Int.reduceToNat, Int.reduceAdd, Int.reduceSub, Int.reduceMul, Int.reduceNeg] | with_reducible refine vIf_t ?_ | with_reducible refine vIf_f ?_))
    (refine vCallX_of ?_; (repeat (first | simp (maxSteps := 2000000) (disch := omega) only [go_sem, ↓reduceIte, Nat.reduceEqDiff, Nat.reduceAdd, Nat.reduceMul, Nat.reduceSub, Int.reduceToNat, Int.reduceAdd, Int.reduceSub, Int.reduceMul, Int.reduceNeg] | with_reducible refine vIf_t ?_ | with_reducible refine vIf_f ?_)); refine vCall_eq (hnum) (by simp (disch := omega) only [go_sem, Nat.reduceAdd]) rfl (by first | exact Or.inl rfl | exact Or.inr ⟨rfl, rfl⟩ | (apply Or.inr; simp only [go_sem])) ?_; (repeat (first | simp (maxSteps := 2000000) (disch := omega) only [go_sem, ↓reduceIte, Nat.reduceEqDiff, Nat.reduceAdd, Nat.reduceMul, Nat.reduceSub, Int.reduceToNat, Int.reduceAdd, Int.reduceSub, Int.reduceMul, Int.reduceNeg] | with_reducible refine vIf_t ?_ | with_reducible refine vIf_f ?_)))
    (try (repeat (first | simp (maxSteps := 2000000) (disch := omega) only [go_sem, ↓reduceIte, Nat.reduceEqDiff, Nat.reduceAdd, Nat.reduceMul, Nat.reduceSub, Int.reduceToNat, Int.reduceAdd, Int.reduceSub, Int.reduceMul, Int.reduceNeg, c5] | with_reducible refine vIf_t ?_ | with_reducible refine vIf_f ?_)))
    (refine vDraw_tr 17 (.rd 0 (.rd 1 (.rd 2 (.rd 3 (.rd 4 (.rd 5 (.rd 6 (.rd 7 (.rd 8 (.rd 9 (.rd 10 (.rd 11 (.rd 12 (.rd 13 (.rd 14 (.alt 15 (.alt 16 (.done) (.stop)) (.alt 16 (.alt 15 (.done) (.stop)) (.stop)))))))))))))))))) (fun _ : Unit => True) (fun _ => ⟨39, 0, [(2, .ptr 0 0), (0, St (tx l)), (5, .ptr 1 0), (27, .agg [I p.rain, I p.seep, I p.evap, I p.pump, I p.slu])], [some ⟨5, [I 0, I 0, I 0, I 0, I 0]⟩, some ⟨5, [I 0, I 0, I 0, I 0, I 0]⟩]⟩) mixed (by kernel_rfl) ?_ ?_)
    · (repeat (first | simp (maxSteps := 2000000) (disch := omega) only [go_sem, ↓reduceIte, Nat.reduceEqDiff, Nat.reduceAdd, Nat.reduceMul, Nat.reduceSub, Int.reduceToNat, Int.reduceAdd, Int.reduceSub, Int.reduceMul, Int.reduceNeg, g0, g1, g2, g3, g4] | with_reducible refine vIf_t ?_ | with_reducible refine vIf_f ?_))
      repeat' (first | refine And.intro ?_ ?_ | (refine ⟨(), leF_p ?_⟩; (repeat (first | simp (maxSteps := 2000000) (disch := omega) only [go_sem, ↓reduceIte, Nat.reduceEqDiff, Nat.reduceAdd, Nat.reduceMul, Nat.reduceSub, Int.reduceToNat, Int.reduceAdd, Int.reduceSub, Int.reduceMul, Int.reduceNeg, g0, g1, g2, g3, g4] | with_reducible refine vIf_t ?_ | with_reducible refine vIf_f ?_))))
    · intro _ _
      simp only [List.drop_succ_cons, List.drop_zero, List.drop_nil]
      (repeat (first | simp (maxSteps := 2000000) (disch := omega) only [go_sem, ↓reduceIte, Nat.reduceEqDiff, Nat.reduceAdd, Nat.reduceMul, Nat.reduceSub, Int.reduceToNat, Int.reduceAdd, Int.reduceSub, Int.reduceMul, Int.reduceNeg] | with_reducible refine vIf_t ?_ | with_reducible refine vIf_f ?_))
      cases hw : wtB p with
      | false =>
        rw [hw] at hv
        rw [er, if_neg (by simp [hw])]
        (refine vCallX_of ?_; (repeat (first | simp (maxSteps := 2000000) (disch := omega) only [go_sem, ↓reduceIte, Nat.reduceEqDiff, Nat.reduceAdd, Nat.reduceMul, Nat.reduceSub, Int.reduceToNat, Int.reduceAdd, Int.reduceSub, Int.reduceMul, Int.reduceNeg] | with_reducible refine vIf_t ?_ | with_reducible refine vIf_f ?_)); refine vCall_eq (hv) (by simp (disch := omega) only [go_sem, Nat.reduceAdd]) rfl (by first | exact Or.inl rfl | exact Or.inr ⟨rfl, rfl⟩ | (apply Or.inr; simp only [go_sem])) ?_; (repeat (first | simp (maxSteps := 2000000) (disch := omega) only [go_sem, ↓reduceIte, Nat.reduceEqDiff, Nat.reduceAdd, Nat.reduceMul, Nat.reduceSub, Int.reduceToNat, Int.reduceAdd, Int.reduceSub, Int.reduceMul, Int.reduceNeg] | with_reducible refine vIf_t ?_ | with_reducible refine vIf_f ?_)))
        (refine retK_of ?_; (repeat (first | simp (maxSteps := 2000000) (disch := omega) only [go_sem, ↓reduceIte, Nat.reduceEqDiff, Nat.reduceAdd, Nat.reduceMul, Nat.reduceSub, Int.reduceToNat, Int.reduceAdd, Int.reduceSub, Int.reduceMul, Int.reduceNeg] | with_reducible refine vIf_t ?_ | with_reducible refine vIf_f ?_)))
        try rfl
      | true =>
        rw [hw] at hv
        rw [if_pos hw] at ht
        (refine vCallX_of ?_; (repeat (first | simp (maxSteps := 2000000) (disch := omega) only [go_sem, ↓reduceIte, Nat.reduceEqDiff, Nat.reduceAdd, Nat.reduceMul, Nat.reduceSub, Int.reduceToNat, Int.reduceAdd, Int.reduceSub, Int.reduceMul, Int.reduceNeg] | with_reducible refine vIf_t ?_ | with_reducible refine vIf_f ?_)); refine vCall_eq (hv) (by simp (disch := omega) only [go_sem, Nat.reduceAdd]) rfl (by first | exact Or.inl rfl | exact Or.inr ⟨rfl, rfl⟩ | (apply Or.inr; simp only [go_sem])) ?_; (repeat (first | simp (maxSteps := 2000000) (disch := omega) only [go_sem, ↓reduceIte, Nat.reduceEqDiff, Nat.reduceAdd, Nat.reduceMul, Nat.reduceSub, Int.reduceToNat, Int.reduceAdd, Int.reduceSub, Int.reduceMul, Int.reduceNeg] | with_reducible refine vIf_t ?_ | with_reducible refine vIf_f ?_)))
        by_cases e : wtT p = l
        · rw [er, if_pos ⟨hw, e⟩]
          rw [e] at ht
          (refine vCallX_of ?_; (repeat (first | simp (maxSteps := 2000000) (disch := omega) only [go_sem, ↓reduceIte, Nat.reduceEqDiff, Nat.reduceAdd, Nat.reduceMul, Nat.reduceSub, Int.reduceToNat, Int.reduceAdd, Int.reduceSub, Int.reduceMul, Int.reduceNeg] | with_reducible refine vIf_t ?_ | with_reducible refine vIf_f ?_)); refine vCall_eq (ht) (by simp (disch := omega) only [go_sem, Nat.reduceAdd]) rfl (by first | exact Or.inl rfl | exact Or.inr ⟨rfl, rfl⟩ | (apply Or.inr; simp only [go_sem])) ?_; (repeat (first | simp (maxSteps := 2000000) (disch := omega) only [go_sem, ↓reduceIte, Nat.reduceEqDiff, Nat.reduceAdd, Nat.reduceMul, Nat.reduceSub, Int.reduceToNat, Int.reduceAdd, Int.reduceSub, Int.reduceMul, Int.reduceNeg] | with_reducible refine vIf_t ?_ | with_reducible refine vIf_f ?_)))
          (refine retK_of ?_; (repeat (first | simp (maxSteps := 2000000) (disch := omega) only [go_sem, ↓reduceIte, Nat.reduceEqDiff, Nat.reduceAdd, Nat.reduceMul, Nat.reduceSub, Int.reduceToNat, Int.reduceAdd, Int.reduceSub, Int.reduceMul, Int.reduceNeg] | with_reducible refine vIf_t ?_ | with_reducible refine vIf_f ?_)))
          try rfl
        · have nb := tx_bq e
          rw [er, if_neg (fun h => e h.2)]
          (refine vCallX_of ?_; (repeat (first | simp (maxSteps := 2000000) (disch := omega) only [go_sem, ↓reduceIte, Nat.reduceEqDiff, Nat.reduceAdd, Nat.reduceMul, Nat.reduceSub, Int.reduceToNat, Int.reduceAdd, Int.reduceSub, Int.reduceMul, Int.reduceNeg] | with_reducible refine vIf_t ?_ | with_reducible refine vIf_f ?_)); refine vCall_eq (ht) (by simp (disch := omega) only [go_sem, Nat.reduceAdd]) rfl (by first | exact Or.inl rfl | exact Or.inr ⟨rfl, rfl⟩ | (apply Or.inr; simp only [go_sem])) ?_; (repeat (first | simp (maxSteps := 2000000) (disch := omega) only [go_sem, ↓reduceIte, Nat.reduceEqDiff, Nat.reduceAdd, Nat.reduceMul, Nat.reduceSub, Int.reduceToNat, Int.reduceAdd, Int.reduceSub, Int.reduceMul, Int.reduceNeg] | with_reducible refine vIf_t ?_ | with_reducible refine vIf_f ?_)))
          (try (repeat (first | simp (maxSteps := 2000000) (disch := omega) only [go_sem, ↓reduceIte, Nat.reduceEqDiff, Nat.reduceAdd, Nat.reduceMul, Nat.reduceSub, Int.reduceToNat, Int.reduceAdd, Int.reduceSub, Int.reduceMul, Int.reduceNeg, nb] | with_reducible refine vIf_t ?_ | with_reducible refine vIf_f ?_)))
          (refine retK_of ?_; (repeat (first | simp (maxSteps := 2000000) (disch := omega) only [go_sem, ↓reduceIte, Nat.reduceEqDiff, Nat.reduceAdd, Nat.reduceMul, Nat.reduceSub, Int.reduceToNat, Int.reduceAdd, Int.reduceSub, Int.reduceMul, Int.reduceNeg] | with_reducible refine vIf_t ?_ | with_reducible refine vIf_f ?_)))
          try rfl
  · have c5 : (((nums l).length : Int) != 5) = true := by simp; omega
    have er : rwO l = none := by unfold rwO; rw [if_neg (fun h => h5 h.1)]
    rw [er]
    (repeat (first | simp (maxSteps := 2000000) (disch := omega) only [go_sem, ↓reduceIte, Nat.reduceEqDiff, Nat.reduceAdd, Nat.reduceMul, Nat.reduceSub, Int.reduceToNat, Int.reduceAdd, Int.reduceSub, Int.reduceMul, Int.reduceNeg] | with_reducible refine vIf_t ?_ | with_reducible refine vIf_f ?_))
    (refine vCallX_of ?_; (repeat (first | simp (maxSteps := 2000000) (disch := omega) only [go_sem, ↓reduceIte, Nat.reduceEqDiff, Nat.reduceAdd, Nat.reduceMul, Nat.reduceSub, Int.reduceToNat, Int.reduceAdd, Int.reduceSub, Int.reduceMul, Int.reduceNeg] | with_reducible refine vIf_t ?_ | with_reducible refine vIf_f ?_)); refine vCall_eq (hnum) (by simp (disch := omega) only [go_sem, Nat.reduceAdd]) rfl (by first | exact Or.inl rfl | exact Or.inr ⟨rfl, rfl⟩ | (apply Or.inr; simp only [go_sem])) ?_; (repeat (first | simp (maxSteps := 2000000) (disch := omega) only [go_sem, ↓reduceIte, Nat.reduceEqDiff, Nat.reduceAdd, Nat.reduceMul, Nat.reduceSub, Int.reduceToNat, Int.reduceAdd, Int.reduceSub, Int.reduceMul, Int.reduceNeg] | with_reducible refine vIf_t ?_ | with_reducible refine vIf_f ?_)))
    (try (repeat (first | simp (maxSteps := 2000000) (disch := omega) only [go_sem, ↓reduceIte, Nat.reduceEqDiff, Nat.reduceAdd, Nat.reduceMul, Nat.reduceSub, Int.reduceToNat, Int.reduceAdd, Int.reduceSub, Int.reduceMul, Int.reduceNeg, c5] | with_reducible refine vIf_t ?_ | with_reducible refine vIf_f ?_)))
    (refine retK_of ?_; (repeat (first | simp (maxSteps := 2000000) (disch := omega) only [go_sem, ↓reduceIte, Nat.reduceEqDiff, Nat.reduceAdd, Nat.reduceMul, Nat.reduceSub, Int.reduceToNat, Int.reduceAdd, Int.reduceSub, Int.reduceMul, Int.reduceNeg] | with_reducible refine vIf_t ?_ | with_reducible refine vIf_f ?_)))
    try rfl
theorem nosp (n : Int) : (32 : UInt8) ∉ itoa n := itoa_free n 32 rfl
/-- the parts of a water's text -/
theorem wt_split {p : Wt} : splB 32 (wtT p) [] = [[114, 97, 105, 110], itoa p.rain, [115, 101, 101, 112], itoa p.seep, [100, 114, 121], itoa p.evap, [112, 117, 109, 112], itoa p.pump, [115, 108, 117, 105, 99, 101], itoa p.slu] := by
  have := splB_joB 32 [[114, 97, 105, 110], itoa p.rain, [115, 101, 101, 112], itoa p.seep, [100, 114, 121], itoa p.evap, [112, 117, 109, 112], itoa p.pump, [115, 108, 117, 105, 99, 101], itoa p.slu] (by simp) (by
    intro x hx
    simp only [List.mem_cons, List.not_mem_nil, or_false] at hx
    rcases hx with rfl | rfl | rfl | rfl | rfl | rfl | rfl | rfl | rfl | rfl
    all_goals first | exact nosp _ | decide)
  rw [← this]
  congr 1
  simp [wtT, wtP, txN, joB]
/-- a part of a list of parts -/
def gp (ws : List (List UInt8)) (i : Nat) : List UInt8 := ws.getD i []
theorem gp_gs (ws : List (List UInt8)) (i : Nat) (h : i < ws.length) : gs (ws.map tx) i = tx (gp ws i) := by simp [gs, gp, h]
/-- words and numbers of the first i pairs -/
def prW (ws : List (List UInt8)) (ns : List Int) (i : Nat) : Prop := ns.length = i ∧ ∀ j, j < i → gp ws (2 * j) = gp wtW j ∧ rdD (gp ws (2 * j + 1)) = some (gi ns j)
theorem rwO_parts {l : List UInt8} {p : Wt} (h : rwO l = some p) : (splB 32 l []).length = 10 ∧ prW (splB 32 l []) (wtA p) 5 := by
  obtain ⟨h1, rfl⟩ := (rwO_iff l p).1 h
  obtain ⟨o1, o2, o3, o4, o5⟩ := wtO_of (wtB_f h1)
  rw [wt_split]
  refine ⟨rfl, rfl, fun j hj => ?_⟩
  rcases j with _ | _ | _ | _ | _ | j
  · exact ⟨rfl, rdD_itoa _ o1⟩
  · exact ⟨rfl, rdD_itoa _ o2⟩
  · exact ⟨rfl, rdD_itoa _ o3⟩
  · exact ⟨rfl, rdD_itoa _ o4⟩
  · exact ⟨rfl, rdD_itoa _ o5⟩
  · omega
theorem parts_rwO {l : List UInt8} {ns : List Int} (hl : (splB 32 l []).length = 10) (h : prW (splB 32 l []) ns 5) : rwO l = if wtB (mkW ns) = true then some (mkW ns) else none := by
  obtain ⟨hn, hp⟩ := h
  have hj := joB_splB 32 l []
  rw [List.nil_append] at hj
  have et : wtT (mkW ns) = l := by
    rw [← hj]
    obtain ⟨a0, b0⟩ := hp 0 (by omega)
    obtain ⟨a1, b1⟩ := hp 1 (by omega)
    obtain ⟨a2, b2⟩ := hp 2 (by omega)
    obtain ⟨a3, b3⟩ := hp 3 (by omega)
    obtain ⟨a4, b4⟩ := hp 4 (by omega)
    have c0 := ((rdD_iff _ _).1 b0).1
    have c1 := ((rdD_iff _ _).1 b1).1
    have c2 := ((rdD_iff _ _).1 b2).1
    have c3 := ((rdD_iff _ _).1 b3).1
    have c4 := ((rdD_iff _ _).1 b4).1
    clear hp b0 b1 b2 b3 b4 hj
    generalize splB 32 l [] = ws at *
    match ws, hl with
    | [w0, w1, w2, w3, w4, w5, w6, w7, w8, w9], _ =>
      simp only [gp, wtW] at a0 a1 a2 a3 a4 c0 c1 c2 c3 c4
      simp at a0 a1 a2 a3 a4 c0 c1 c2 c3 c4
      subst a0 a1 a2 a3 a4 c0 c1 c2 c3 c4
      simp [wtT, wtP, txN, joB, mkW]
  by_cases hw : wtB (mkW ns) = true
  · rw [if_pos hw]
    exact (rwO_iff _ _).2 ⟨hw, et⟩
  · rw [if_neg hw]
    cases hr : rwO l with
    | none => rfl
    | some q =>
      exfalso
      obtain ⟨_, hq2, hq3⟩ := rwO_parts hr
      have hq1 := ((rwO_iff l q).1 hr).1
      have e : ∀ j, j < 5 → gi (wtA q) j = gi ns j := fun j hj' => by
        have h1 := (hq3 j hj').2
        rw [(hp j hj').2] at h1
        simpa using h1.symm
      have : mkW ns = q := by
        unfold mkW
        rw [← e 0 (by omega), ← e 1 (by omega), ← e 2 (by omega), ← e 3 (by omega), ← e 4 (by omega)]
        rfl
      rw [this] at hw
      exact hw hq1
theorem splB_mlen (b : UInt8) : ∀ (l cur : List UInt8), ∀ x ∈ splB b l cur, x.length ≤ cur.length + l.length
  | [], cur => by simp [splB]
  | c :: r, cur => by
    simp only [splB]
    have h1 := splB_mlen b r []
    have h2 := splB_mlen b r (cur ++ [c])
    split
    · intro x hx
      rcases List.mem_cons.1 hx with rfl | hx
      · omega
      · have := h1 x hx; simp at this ⊢; omega
    · intro x hx; have := h2 x hx; simp at this ⊢; omega
set_option maxRecDepth 20000 in
set_option maxHeartbeats 8000000 in
theorem readWaterS_ok (l : List UInt8) (ha : Asc l) (hl : l.length ≤ 10000) : ACalls Tryz.prog 22 [St (tx l)] [] (fun r o => r = rwV (rwO l) ∧ o = []) := by
  refine ACalls.of_vc Tryz.func22 rfl (by decide) 72 rfl [.cell 2 35, .tmp 3] rfl (by simp) ?_
  have hsp := l01Split_ok l 32 (by omega)
  have hsl := splB_len 32 l []
  have h32 : ((32 : UInt8).toNat : Int) = 32 := rfl
  rw [h32] at hsp
  have hpl : ∀ i, (gp (splB 32 l []) i).length ≤ 10000 := by
    intro i
    by_cases hi : i < (splB 32 l []).length
    · have := splB_mlen 32 l [] (gp (splB 32 l []) i) (by simp only [gp, List.getD, List.getElem?_eq_getElem hi, Option.getD_some]; exact List.getElem_mem hi)
      simp at this
      omega
    · simp [gp, List.getElem?_eq_none (show (splB 32 l []).length ≤ i by omega)]
  have hno := fun (p : Wt) (h : rwO l = some p) => rwO_parts h
  have hyes := fun (ns : List Int) (h1 : (splB 32 l []).length = 10) (h2 : prW (splB 32 l []) ns 5) => parts_rwO h1 h2
  generalize splB 32 l [] = ws at *
  by_cases h10 : ws.length = 10
  · have c10 : ((ws.length : Int) != 10) = false := by simp; omega
    have hml : (ws.map tx).length = 10 := by simp [h10]
    (repeat (first | simp (maxSteps := 2000000) (disch := omega) only [go_sem, ↓reduceIte, Nat.reduceEqDiff, Nat.reduceAdd, Nat.reduceMul, Nat.reduceSub, Int.reduceToNat, Int.reduceAdd, Int.reduceSub, Int.reduceMul, Int.reduceNeg] | with_reducible refine vIf_t ?_ | with_reducible refine vIf_f ?_))
    (refine vCallX_of ?_; (repeat (first | simp (maxSteps := 2000000) (disch := omega) only [go_sem, ↓reduceIte, Nat.reduceEqDiff, Nat.reduceAdd, Nat.reduceMul, Nat.reduceSub, Int.reduceToNat, Int.reduceAdd, Int.reduceSub, Int.reduceMul, Int.reduceNeg] | with_reducible refine vIf_t ?_ | with_reducible refine vIf_f ?_)); refine vCall_eq (hsp) (by simp (disch := omega) only [go_sem, Nat.reduceAdd]) rfl (by first | exact Or.inl rfl | exact Or.inr ⟨rfl, rfl⟩ | (apply Or.inr; simp only [go_sem])) ?_; (repeat (first | simp (maxSteps := 2000000) (disch := omega) only [go_sem, ↓reduceIte, Nat.reduceEqDiff, Nat.reduceAdd, Nat.reduceMul, Nat.reduceSub, Int.reduceToNat, Int.reduceAdd, Int.reduceSub, Int.reduceMul, Int.reduceNeg] | with_reducible refine vIf_t ?_ | with_reducible refine vIf_f ?_)))
    (try (repeat (first | simp (maxSteps := 2000000) (disch := omega) only [go_sem, ↓reduceIte, Nat.reduceEqDiff, Nat.reduceAdd, Nat.reduceMul, Nat.reduceSub, Int.reduceToNat, Int.reduceAdd, Int.reduceSub, Int.reduceMul, Int.reduceNeg, c10] | with_reducible refine vIf_t ?_ | with_reducible refine vIf_f ?_)))
    refine vcLoop_invF (fun x : Nat × List Int => x.1 ≤ 5 ∧ prW ws x.2 x.1) (fun x => ⟨72, 0, [(2, .ptr 0 0), (4, .ref 1 0 10), (5, .ref 2 0 5), (6, .ref 3 0 x.1), (7, I x.1)], [some ⟨5, [I 0, I 0, I 0, I 0, I 0]⟩, some ⟨1, strs (ws.map tx)⟩, some ⟨1, strs (wtW.map tx)⟩, oI x.2]⟩) (fun x => 5 - x.1) (0, []) ⟨by simp, rfl, fun j hj => by simp at hj⟩ (by unfold wtW; simp only [List.map_cons, List.map_nil]; rw [h10]; (first | (refine leF_s ?_; ((repeat (first | simp (maxSteps := 2000000) (disch := omega) only [go_sem, ↓reduceIte, Nat.reduceEqDiff, Nat.reduceAdd, Nat.reduceMul, Nat.reduceSub, Int.reduceToNat, Int.reduceAdd, Int.reduceSub, Int.reduceMul, Int.reduceNeg] | with_reducible refine vIf_t ?_ | with_reducible refine vIf_f ?_)); all_goals (try simp); all_goals (try omega)); done) | (refine leF_p ?_; ((repeat (first | simp (maxSteps := 2000000) (disch := omega) only [go_sem, ↓reduceIte, Nat.reduceEqDiff, Nat.reduceAdd, Nat.reduceMul, Nat.reduceSub, Int.reduceToNat, Int.reduceAdd, Int.reduceSub, Int.reduceMul, Int.reduceNeg] | with_reducible refine vIf_t ?_ | with_reducible refine vIf_f ?_)); all_goals (try simp); all_goals (try omega)); done))) ?_
    rintro ⟨i, ns⟩ ⟨hi, hn, hq⟩
    simp only at hi hn hq
    (repeat (first | simp (maxSteps := 2000000) (disch := omega) only [go_sem, ↓reduceIte, Nat.reduceEqDiff, Nat.reduceAdd, Nat.reduceMul, Nat.reduceSub, Int.reduceToNat, Int.reduceAdd, Int.reduceSub, Int.reduceMul, Int.reduceNeg] | with_reducible refine vIf_t ?_ | with_reducible refine vIf_f ?_))
    refine vIf_dec (fun h => ?_) (fun h => ?_)
    · have hi5 : i < 5 := by omega
      have g1 := gp_gs ws (2 * i + 1) (by omega)
      have g2 := gp_gs ws (2 * i) (by omega)
      have g3 := gp_gs wtW i (by simp [wtW]; omega)
      have j1 : (2 * (i : Int) + 1).toNat = 2 * i + 1 := by omega
      have j2 : (2 * (i : Int)).toNat = 2 * i := by omega
      have hw5 : wtW.length = 5 := rfl
      have hN := l01Number_ok (gp ws (2 * i + 1)) (by have := hpl (2 * i + 1); omega)
      have fail1 : (rdD (gp ws (2 * i + 1)) = none ∨ gp ws (2 * i) ≠ gp wtW i) → rwO l = none := by
        intro hh
        cases hr : rwO l with
        | none => rfl
        | some q =>
          obtain ⟨_, _, hq3⟩ := hno q hr
          obtain ⟨w1, w2⟩ := hq3 i hi5
          rcases hh with h1 | h1
          · rw [h1] at w2; exact absurd w2 (by simp)
          · exact absurd w1 h1
      (repeat (first | simp (maxSteps := 2000000) (disch := omega) only [go_sem, ↓reduceIte, Nat.reduceEqDiff, Nat.reduceAdd, Nat.reduceMul, Nat.reduceSub, Int.reduceToNat, Int.reduceAdd, Int.reduceSub, Int.reduceMul, Int.reduceNeg, j1, g1] | with_reducible refine vIf_t ?_ | with_reducible refine vIf_f ?_))
      cases hd : rdD (gp ws (2 * i + 1)) with
      | none =>
        rw [hd] at hN
        unfold rdR at hN
        rw [fail1 (.inl hd)]
        (refine vCallX_of ?_; (repeat (first | simp (maxSteps := 2000000) (disch := omega) only [go_sem, ↓reduceIte, Nat.reduceEqDiff, Nat.reduceAdd, Nat.reduceMul, Nat.reduceSub, Int.reduceToNat, Int.reduceAdd, Int.reduceSub, Int.reduceMul, Int.reduceNeg] | with_reducible refine vIf_t ?_ | with_reducible refine vIf_f ?_)); refine vCall_eq (hN) (by simp (disch := omega) only [go_sem, Nat.reduceAdd]) rfl (by first | exact Or.inl rfl | exact Or.inr ⟨rfl, rfl⟩ | (apply Or.inr; simp only [go_sem])) ?_; (repeat (first | simp (maxSteps := 2000000) (disch := omega) only [go_sem, ↓reduceIte, Nat.reduceEqDiff, Nat.reduceAdd, Nat.reduceMul, Nat.reduceSub, Int.reduceToNat, Int.reduceAdd, Int.reduceSub, Int.reduceMul, Int.reduceNeg] | with_reducible refine vIf_t ?_ | with_reducible refine vIf_f ?_)))
        (refine vDraw_sch 12 [(0, false), (1, false), (2, false), (3, false), (4, false), (5, false), (6, false), (7, false), (8, false), (9, false), (10, false), (11, false)] mixed (by kernel_rfl) ?_; simp only [List.cons_append, List.nil_append, List.map_cons, List.map_nil, nthO_zero, nthO_succ, List.drop_succ_cons, List.drop_zero, List.drop_nil]; (repeat (first | simp (maxSteps := 2000000) (disch := omega) only [go_sem, ↓reduceIte, Nat.reduceEqDiff, Nat.reduceAdd, Nat.reduceMul, Nat.reduceSub, Int.reduceToNat, Int.reduceAdd, Int.reduceSub, Int.reduceMul, Int.reduceNeg] | with_reducible refine vIf_t ?_ | with_reducible refine vIf_f ?_)))
        (try (repeat (first | simp (maxSteps := 2000000) (disch := omega) only [go_sem, ↓reduceIte, Nat.reduceEqDiff, Nat.reduceAdd, Nat.reduceMul, Nat.reduceSub, Int.reduceToNat, Int.reduceAdd, Int.reduceSub, Int.reduceMul, Int.reduceNeg] | with_reducible refine vIf_t ?_ | with_reducible refine vIf_f ?_)))
        (refine retK_of ?_; (repeat (first | simp (maxSteps := 2000000) (disch := omega) only [go_sem, ↓reduceIte, Nat.reduceEqDiff, Nat.reduceAdd, Nat.reduceMul, Nat.reduceSub, Int.reduceToNat, Int.reduceAdd, Int.reduceSub, Int.reduceMul, Int.reduceNeg] | with_reducible refine vIf_t ?_ | with_reducible refine vIf_f ?_)))
        try rfl
      | some n =>
        rw [hd] at hN
        unfold rdR at hN
        by_cases he : gp ws (2 * i) = gp wtW i
        · rw [he] at g2
          (refine vCallX_of ?_; (repeat (first | simp (maxSteps := 2000000) (disch := omega) only [go_sem, ↓reduceIte, Nat.reduceEqDiff, Nat.reduceAdd, Nat.reduceMul, Nat.reduceSub, Int.reduceToNat, Int.reduceAdd, Int.reduceSub, Int.reduceMul, Int.reduceNeg] | with_reducible refine vIf_t ?_ | with_reducible refine vIf_f ?_)); refine vCall_eq (hN) (by simp (disch := omega) only [go_sem, Nat.reduceAdd]) rfl (by first | exact Or.inl rfl | exact Or.inr ⟨rfl, rfl⟩ | (apply Or.inr; simp only [go_sem])) ?_; (repeat (first | simp (maxSteps := 2000000) (disch := omega) only [go_sem, ↓reduceIte, Nat.reduceEqDiff, Nat.reduceAdd, Nat.reduceMul, Nat.reduceSub, Int.reduceToNat, Int.reduceAdd, Int.reduceSub, Int.reduceMul, Int.reduceNeg] | with_reducible refine vIf_t ?_ | with_reducible refine vIf_f ?_)))
          (refine vDraw_sch 12 [(0, false), (1, false), (2, false), (3, false), (4, false), (5, false), (6, false), (7, false), (8, false), (9, false), (10, false), (11, false)] mixed (by kernel_rfl) ?_; simp only [List.cons_append, List.nil_append, List.map_cons, List.map_nil, nthO_zero, nthO_succ, List.drop_succ_cons, List.drop_zero, List.drop_nil]; (repeat (first | simp (maxSteps := 2000000) (disch := omega) only [go_sem, ↓reduceIte, Nat.reduceEqDiff, Nat.reduceAdd, Nat.reduceMul, Nat.reduceSub, Int.reduceToNat, Int.reduceAdd, Int.reduceSub, Int.reduceMul, Int.reduceNeg] | with_reducible refine vIf_t ?_ | with_reducible refine vIf_f ?_)))
          (try (repeat (first | simp (maxSteps := 2000000) (disch := omega) only [go_sem, ↓reduceIte, Nat.reduceEqDiff, Nat.reduceAdd, Nat.reduceMul, Nat.reduceSub, Int.reduceToNat, Int.reduceAdd, Int.reduceSub, Int.reduceMul, Int.reduceNeg, j2, g2, g3] | with_reducible refine vIf_t ?_ | with_reducible refine vIf_f ?_)))
          refine againF (i + 1, ns ++ [n]) ⟨by simp only; omega, by simp [hn], fun j hj => ?_⟩ (by simp only; omega) (by (first | (refine leF_s ?_; ((repeat (first | simp (maxSteps := 2000000) (disch := omega) only [go_sem, ↓reduceIte, Nat.reduceEqDiff, Nat.reduceAdd, Nat.reduceMul, Nat.reduceSub, Int.reduceToNat, Int.reduceAdd, Int.reduceSub, Int.reduceMul, Int.reduceNeg] | with_reducible refine vIf_t ?_ | with_reducible refine vIf_f ?_)); all_goals (try simp); all_goals (try omega)); done) | (refine leF_p ?_; ((repeat (first | simp (maxSteps := 2000000) (disch := omega) only [go_sem, ↓reduceIte, Nat.reduceEqDiff, Nat.reduceAdd, Nat.reduceMul, Nat.reduceSub, Int.reduceToNat, Int.reduceAdd, Int.reduceSub, Int.reduceMul, Int.reduceNeg] | with_reducible refine vIf_t ?_ | with_reducible refine vIf_f ?_)); all_goals (try simp); all_goals (try omega)); done)))
          simp only at hj ⊢
          by_cases hji : j < i
          · rw [gi_append_left _ _ _ (by omega)]; exact hq j hji
          · obtain rfl : j = i := by omega
            rw [gi_append_right _ _ _ (by omega), hn, Nat.sub_self]
            exact ⟨he, hd⟩
        · have nb := tx_bq he
          rw [fail1 (.inr he)]
          (refine vCallX_of ?_; (repeat (first | simp (maxSteps := 2000000) (disch := omega) only [go_sem, ↓reduceIte, Nat.reduceEqDiff, Nat.reduceAdd, Nat.reduceMul, Nat.reduceSub, Int.reduceToNat, Int.reduceAdd, Int.reduceSub, Int.reduceMul, Int.reduceNeg] | with_reducible refine vIf_t ?_ | with_reducible refine vIf_f ?_)); refine vCall_eq (hN) (by simp (disch := omega) only [go_sem, Nat.reduceAdd]) rfl (by first | exact Or.inl rfl | exact Or.inr ⟨rfl, rfl⟩ | (apply Or.inr; simp only [go_sem])) ?_; (repeat (first | simp (maxSteps := 2000000) (disch := omega) only [go_sem, ↓reduceIte, Nat.reduceEqDiff, Nat.reduceAdd, Nat.reduceMul, Nat.reduceSub, Int.reduceToNat, Int.reduceAdd, Int.reduceSub, Int.reduceMul, Int.reduceNeg] | with_reducible refine vIf_t ?_ | with_reducible refine vIf_f ?_)))
          (refine vDraw_sch 12 [(0, false), (1, false), (2, false), (3, false), (4, false), (5, false), (6, false), (7, false), (8, false), (9, false), (10, false), (11, false)] mixed (by kernel_rfl) ?_; simp only [List.cons_append, List.nil_append, List.map_cons, List.map_nil, nthO_zero, nthO_succ, List.drop_succ_cons, List.drop_zero, List.drop_nil]; (repeat (first | simp (maxSteps := 2000000) (disch := omega) only [go_sem, ↓reduceIte, Nat.reduceEqDiff, Nat.reduceAdd, Nat.reduceMul, Nat.reduceSub, Int.reduceToNat, Int.reduceAdd, Int.reduceSub, Int.reduceMul, Int.reduceNeg] | with_reducible refine vIf_t ?_ | with_reducible refine vIf_f ?_)))
          (try (repeat (first | simp (maxSteps := 2000000) (disch := omega) only [go_sem, ↓reduceIte, Nat.reduceEqDiff, Nat.reduceAdd, Nat.reduceMul, Nat.reduceSub, Int.reduceToNat, Int.reduceAdd, Int.reduceSub, Int.reduceMul, Int.reduceNeg, j2, g2, g3, nb] | with_reducible refine vIf_t ?_ | with_reducible refine vIf_f ?_)))
          (refine retK_of ?_; (repeat (first | simp (maxSteps := 2000000) (disch := omega) only [go_sem, ↓reduceIte, Nat.reduceEqDiff, Nat.reduceAdd, Nat.reduceMul, Nat.reduceSub, Int.reduceToNat, Int.reduceAdd, Int.reduceSub, Int.reduceMul, Int.reduceNeg] | with_reducible refine vIf_t ?_ | with_reducible refine vIf_f ?_)))
          try rfl
    · have ei : i = 5 := by omega
      subst ei
      have hres := hyes ns h10 ⟨hn, hq⟩
      generalize hp : mkW ns = p at hres
      have g0 : gi ns 0 = p.rain := by rw [← hp]; rfl
      have g1 : gi ns 1 = p.seep := by rw [← hp]; rfl
      have g2 : gi ns 2 = p.evap := by rw [← hp]; rfl
      have g3 : gi ns 3 = p.pump := by rw [← hp]; rfl
      have g4 : gi ns 4 = p.slu := by rw [← hp]; rfl
      have hv := l13Ok_ok [p] 0 (by simp)
      rw [show gWt [p] 0 = p from rfl, show cWt [p] = p.cells by simp [cWt], Nat.zero_mul] at hv
      unfold Wt.cells at hv
      (repeat (first | simp (maxSteps := 2000000) (disch := omega) only [go_sem, ↓reduceIte, Nat.reduceEqDiff, Nat.reduceAdd, Nat.reduceMul, Nat.reduceSub, Int.reduceToNat, Int.reduceAdd, Int.reduceSub, Int.reduceMul, Int.reduceNeg] | with_reducible refine vIf_t ?_ | with_reducible refine vIf_f ?_))
      (refine vDraw_tr 17 (.rd 0 (.rd 1 (.rd 2 (.rd 3 (.rd 4 (.rd 5 (.rd 6 (.rd 7 (.rd 8 (.rd 9 (.rd 10 (.rd 11 (.rd 12 (.rd 13 (.rd 14 (.alt 15 (.alt 16 (.done) (.stop)) (.alt 16 (.alt 15 (.done) (.stop)) (.stop)))))))))))))))))) (fun _ : Unit => True) (fun _ => ⟨72, 0, [(2, .ptr 0 0), (10, .ptr 1 0), (67, .agg [I p.rain, I p.seep, I p.evap, I p.pump, I p.slu])], [some ⟨5, [I 0, I 0, I 0, I 0, I 0]⟩, some ⟨5, [I 0, I 0, I 0, I 0, I 0]⟩]⟩) mixed (by kernel_rfl) ?_ ?_)
      · (repeat (first | simp (maxSteps := 2000000) (disch := omega) only [go_sem, ↓reduceIte, Nat.reduceEqDiff, Nat.reduceAdd, Nat.reduceMul, Nat.reduceSub, Int.reduceToNat, Int.reduceAdd, Int.reduceSub, Int.reduceMul, Int.reduceNeg, g0, g1, g2, g3, g4] | with_reducible refine vIf_t ?_ | with_reducible refine vIf_f ?_))
        repeat' (first | refine And.intro ?_ ?_ | (refine ⟨(), leF_p ?_⟩; (repeat (first | simp (maxSteps := 2000000) (disch := omega) only [go_sem, ↓reduceIte, Nat.reduceEqDiff, Nat.reduceAdd, Nat.reduceMul, Nat.reduceSub, Int.reduceToNat, Int.reduceAdd, Int.reduceSub, Int.reduceMul, Int.reduceNeg, g0, g1, g2, g3, g4] | with_reducible refine vIf_t ?_ | with_reducible refine vIf_f ?_))))
      · intro _ _
        simp only [List.drop_succ_cons, List.drop_zero, List.drop_nil]
        (repeat (first | simp (maxSteps := 2000000) (disch := omega) only [go_sem, ↓reduceIte, Nat.reduceEqDiff, Nat.reduceAdd, Nat.reduceMul, Nat.reduceSub, Int.reduceToNat, Int.reduceAdd, Int.reduceSub, Int.reduceMul, Int.reduceNeg] | with_reducible refine vIf_t ?_ | with_reducible refine vIf_f ?_))
        cases hw : wtB p with
        | false =>
          rw [hw] at hv hres
          rw [hres]
          (refine vCallX_of ?_; (repeat (first | simp (maxSteps := 2000000) (disch := omega) only [go_sem, ↓reduceIte, Nat.reduceEqDiff, Nat.reduceAdd, Nat.reduceMul, Nat.reduceSub, Int.reduceToNat, Int.reduceAdd, Int.reduceSub, Int.reduceMul, Int.reduceNeg] | with_reducible refine vIf_t ?_ | with_reducible refine vIf_f ?_)); refine vCall_eq (hv) (by simp (disch := omega) only [go_sem, Nat.reduceAdd]) rfl (by first | exact Or.inl rfl | exact Or.inr ⟨rfl, rfl⟩ | (apply Or.inr; simp only [go_sem])) ?_; (repeat (first | simp (maxSteps := 2000000) (disch := omega) only [go_sem, ↓reduceIte, Nat.reduceEqDiff, Nat.reduceAdd, Nat.reduceMul, Nat.reduceSub, Int.reduceToNat, Int.reduceAdd, Int.reduceSub, Int.reduceMul, Int.reduceNeg] | with_reducible refine vIf_t ?_ | with_reducible refine vIf_f ?_)))
          (refine retK_of ?_; (repeat (first | simp (maxSteps := 2000000) (disch := omega) only [go_sem, ↓reduceIte, Nat.reduceEqDiff, Nat.reduceAdd, Nat.reduceMul, Nat.reduceSub, Int.reduceToNat, Int.reduceAdd, Int.reduceSub, Int.reduceMul, Int.reduceNeg] | with_reducible refine vIf_t ?_ | with_reducible refine vIf_f ?_)))
          try rfl
        | true =>
          rw [hw] at hv hres
          rw [hres]
          (refine vCallX_of ?_; (repeat (first | simp (maxSteps := 2000000) (disch := omega) only [go_sem, ↓reduceIte, Nat.reduceEqDiff, Nat.reduceAdd, Nat.reduceMul, Nat.reduceSub, Int.reduceToNat, Int.reduceAdd, Int.reduceSub, Int.reduceMul, Int.reduceNeg] | with_reducible refine vIf_t ?_ | with_reducible refine vIf_f ?_)); refine vCall_eq (hv) (by simp (disch := omega) only [go_sem, Nat.reduceAdd]) rfl (by first | exact Or.inl rfl | exact Or.inr ⟨rfl, rfl⟩ | (apply Or.inr; simp only [go_sem])) ?_; (repeat (first | simp (maxSteps := 2000000) (disch := omega) only [go_sem, ↓reduceIte, Nat.reduceEqDiff, Nat.reduceAdd, Nat.reduceMul, Nat.reduceSub, Int.reduceToNat, Int.reduceAdd, Int.reduceSub, Int.reduceMul, Int.reduceNeg] | with_reducible refine vIf_t ?_ | with_reducible refine vIf_f ?_)))
          (refine retK_of ?_; (repeat (first | simp (maxSteps := 2000000) (disch := omega) only [go_sem, ↓reduceIte, Nat.reduceEqDiff, Nat.reduceAdd, Nat.reduceMul, Nat.reduceSub, Int.reduceToNat, Int.reduceAdd, Int.reduceSub, Int.reduceMul, Int.reduceNeg] | with_reducible refine vIf_t ?_ | with_reducible refine vIf_f ?_)))
          try rfl
  · have c10 : ((ws.length : Int) != 10) = true := by simp; omega
    have er : rwO l = none := by
      cases hr : rwO l with
      | none => rfl
      | some q => exact absurd (hno q hr).1 h10
    rw [er]
    (repeat (first | simp (maxSteps := 2000000) (disch := omega) only [go_sem, ↓reduceIte, Nat.reduceEqDiff, Nat.reduceAdd, Nat.reduceMul, Nat.reduceSub, Int.reduceToNat, Int.reduceAdd, Int.reduceSub, Int.reduceMul, Int.reduceNeg] | with_reducible refine vIf_t ?_ | with_reducible refine vIf_f ?_))
    (refine vCallX_of ?_; (repeat (first | simp (maxSteps := 2000000) (disch := omega) only [go_sem, ↓reduceIte, Nat.reduceEqDiff, Nat.reduceAdd, Nat.reduceMul, Nat.reduceSub, Int.reduceToNat, Int.reduceAdd, Int.reduceSub, Int.reduceMul, Int.reduceNeg] | with_reducible refine vIf_t ?_ | with_reducible refine vIf_f ?_)); refine vCall_eq (hsp) (by simp (disch := omega) only [go_sem, Nat.reduceAdd]) rfl (by first | exact Or.inl rfl | exact Or.inr ⟨rfl, rfl⟩ | (apply Or.inr; simp only [go_sem])) ?_; (repeat (first | simp (maxSteps := 2000000) (disch := omega) only [go_sem, ↓reduceIte, Nat.reduceEqDiff, Nat.reduceAdd, Nat.reduceMul, Nat.reduceSub, Int.reduceToNat, Int.reduceAdd, Int.reduceSub, Int.reduceMul, Int.reduceNeg] | with_reducible refine vIf_t ?_ | with_reducible refine vIf_f ?_)))
    (try (repeat (first | simp (maxSteps := 2000000) (disch := omega) only [go_sem, ↓reduceIte, Nat.reduceEqDiff, Nat.reduceAdd, Nat.reduceMul, Nat.reduceSub, Int.reduceToNat, Int.reduceAdd, Int.reduceSub, Int.reduceMul, Int.reduceNeg, c10] | with_reducible refine vIf_t ?_ | with_reducible refine vIf_f ?_)))
    (refine retK_of ?_; (repeat (first | simp (maxSteps := 2000000) (disch := omega) only [go_sem, ↓reduceIte, Nat.reduceEqDiff, Nat.reduceAdd, Nat.reduceMul, Nat.reduceSub, Int.reduceToNat, Int.reduceAdd, Int.reduceSub, Int.reduceMul, Int.reduceNeg] | with_reducible refine vIf_t ?_ | with_reducible refine vIf_f ?_)))
    try rfl
end Go.Proofs.YtneokdflhleidaaGreatDoor

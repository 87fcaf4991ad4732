/- sluices: runs, open hours -/
import Derived.Test.YthnphcinjchloaaSlu1
import Derived.Test.YthnphcinjchloaaIxs
set_option linter.unusedVariables false
set_option linter.unusedSimpArgs false
namespace Go.Proofs.Ythnphcinjchloaa
open Go.AG

attribute [local go_sem] beq_self_eq_true bne_self_eq_false Bool.not_true Bool.not_false
def GtR (xs : List Gt) (c : Int) (r : V) (o : Objs) : Prop := (r = .tup [.ref 0 0 xs.length, I c] ∧ o = [some ⟨3, cGt xs⟩]) ∨ (xs = [] ∧ r = .tup [.sc (.slice none 0 0), I c] ∧ o = [])
theorem GtR.fz {P : Program} {f : FuncId} {args : List V} {xs : List Gt} {c : Int} (h : ACalls P f args [] (GtR xs c)) : ACalls P f args [] (fun r o => r = .tup [.sl xs.length (cGt xs), I c] ∧ o = []) := by
  have h1 : ACalls P f args [] (fun r o => (r = .tup [.sl xs.length (cGt xs), I c] ∧ o = []) ∨ (xs = [] ∧ r = .tup [.sc (.slice none 0 0), I c] ∧ o = [])) := by
    refine h.fz ?_
    rintro r o (⟨rfl, rfl⟩ | ⟨h1, rfl, rfl⟩)
    · refine ⟨.tup [.sl xs.length (cGt xs), I c], .step 0 ⟨3, cGt xs⟩ rfl (by (repeat (first | simp (maxSteps := 2000000) (disch := omega) only [go_sem, ↓reduceIte, Nat.reduceEqDiff, Nat.reduceAdd, Nat.reduceMul, Nat.reduceSub, Int.reduceToNat, Int.reduceAdd, Int.reduceSub, Int.reduceMul, Int.reduceNeg] | with_reducible refine vIf_t ?_ | with_reducible refine vIf_f ?_))) ?_, .inl ⟨rfl, rfl⟩⟩
      (repeat (first | simp (maxSteps := 2000000) (disch := omega) only [go_sem, ↓reduceIte, Nat.reduceEqDiff, Nat.reduceAdd, Nat.reduceMul, Nat.reduceSub, Int.reduceToNat, Int.reduceAdd, Int.reduceSub, Int.reduceMul, Int.reduceNeg] | with_reducible refine vIf_t ?_ | with_reducible refine vIf_f ?_))
      exact .done rfl
    · exact ⟨_, .done rfl, .inr ⟨h1, rfl, rfl⟩⟩
  refine h1.leD ?_
  rintro r o (⟨rfl, rfl⟩ | ⟨h1, rfl, rfl⟩)
  · exact ⟨_, .le (V.le_refl _), rfl, rfl⟩
  · subst h1
    exact ⟨_, LeD.tup' (leD_nilS (leD_same _ leD_nil)), rfl, rfl⟩
theorem stp_ok9 {s : Slc} {g : Gt} {ord i o : Int} (h : (stp s g ord i o).2 = 0) : okG9 (stp s g ord i o).1 = true := by
  by_cases c : ord = 1 ∧ i ≤ o
  · unfold stp at h
    rw [if_pos c] at h
    simp at h
  · have e : stp s g ord i o = finG ⟨opn g ord i o, if opn g ord i o = true then g.ps + flw s i o else g.ps, if opn g ord i o = g.op then g.mv else g.mv + 1⟩ := if_neg c
    rw [e] at h ⊢
    generalize (⟨opn g ord i o, if opn g ord i o = true then g.ps + flw s i o else g.ps, if opn g ord i o = g.op then g.mv else g.mv + 1⟩ : Gt) = q at *
    cases hq : okG9 q with
    | true => rw [finG_y hq]; exact hq
    | false => rw [finG_n hq] at h; simp at h
/-- the state after some hours, and the code -/
def sgK (s : Slc) (os a b : List Int) : Nat → Gt × Int
  | 0 => (zG, 0)
  | k + 1 => if (sgK s os a b k).2 = 0 then stp s (sgK s os a b k).1 (gi os k) (gi a k) (gi b k) else sgK s os a b k
@[local go_sem] theorem zG1 : zG.op = false := _root_.id rfl
@[local go_sem] theorem zG2 : zG.ps = 0 := _root_.id rfl
@[local go_sem] theorem zG3 : zG.mv = 0 := _root_.id rfl
theorem sgK0 (s : Slc) (os a b : List Int) : sgK s os a b 0 = (zG, 0) := rfl
theorem sgK_ok (s : Slc) (os a b : List Int) (k : Nat) (h : (sgK s os a b k).2 = 0) : okG9 (sgK s os a b k).1 = true := by
  induction k with
  | zero => rfl
  | succ k ih =>
    rw [sgK] at h ⊢
    split at h
    · rename_i hc; rw [if_pos hc]; exact stp_ok9 h
    · omega
theorem sgK_stop (s : Slc) (os a b : List Int) (k n : Nat) (h : (sgK s os a b k).2 ≠ 0) (hn : k ≤ n) : sgK s os a b n = sgK s os a b k := by
  induction n with
  | zero => rw [show k = 0 by omega]
  | succ n ih =>
    by_cases e : k = n + 1
    · rw [e]
    · have := ih (by omega)
      rw [sgK, if_neg (by rw [this]; exact h), this]
def sgL (s : Slc) (os a b : List Int) (k : Nat) : List Gt := (List.range k).map fun i => (sgK s os a b (i + 1)).1
@[go_sem] theorem sgL_zero (s : Slc) (os a b : List Int) : sgL s os a b 0 = [] := _root_.id rfl
theorem sgL_len (s : Slc) (os a b : List Int) (k : Nat) : (sgL s os a b k).length = k := by simp [sgL]
theorem sgL_succ (s : Slc) (os a b : List Int) (k : Nat) : sgL s os a b (k + 1) = sgL s os a b k ++ [⟨(sgK s os a b (k + 1)).1.op, (sgK s os a b (k + 1)).1.ps, (sgK s os a b (k + 1)).1.mv⟩] := by simp [sgL, List.range_succ]
def orB (os : List Int) : Bool := os.all fun n => decide (0 ≤ n ∧ n ≤ 2)
def rsC (s : Slc) (os a b : List Int) : Int := if okS s = true then if sdB a b = true ∧ os.length = a.length ∧ orB os = true then (sgK s os a b a.length).2 else 2 else 1
def rsQ (s : Slc) (os a b : List Int) : List Gt := if rsC s os a b = 0 then sgL s os a b a.length else []
set_option maxHeartbeats 8000000 in
theorem runSl_ok (s : Slc) (os a b : List Int) (ho : os.length ≤ 10000000) (ha : a.length ≤ 10000000) (hb : b.length ≤ 10000000) : ACalls Try.prog 18 [.agg s.cells, .sl os.length (ints os), .sl a.length (ints a), .sl b.length (ints b)] [] (fun r o => r = .tup [.sl (rsQ s os a b).length (cGt (rsQ s os a b)), I (rsC s os a b)] ∧ o = []) := by
  refine GtR.fz (ACalls.mono (Q := fun r o => r = .tup [.ref 0 0 (rsQ s os a b).length, I (rsC s os a b)] ∧ o = [some ⟨3, cGt (rsQ s os a b)⟩]) ?_ fun r o h => .inl h)
  refine ACalls.of_vc Try.func18 rfl (by decide) 74 rfl [.tmp 8, .tmp 9] rfl (by simp) ?_
  have h1 := validSl_ok s
  have h2 := areSides_ok a b ha hb
  have hall := all_ok 80 [] (fun n => decide (0 ≤ n ∧ n ≤ 2)) os (fun x _ => isOrder_ok x) rfl ho
  unfold Slc.cells at h1 ⊢
  unfold iS at hall
  (repeat (first | simp (maxSteps := 2000000) (disch := omega) only [go_sem, ↓reduceIte, Nat.reduceEqDiff, Nat.reduceAdd, Nat.reduceMul, Nat.reduceSub, Int.reduceToNat, Int.reduceAdd, Int.reduceSub, Int.reduceMul, Int.reduceNeg] | with_reducible refine vIf_t ?_ | with_reducible refine vIf_f ?_))
  (refine vCallX_of ?_; (repeat (first | simp (maxSteps := 2000000) (disch := omega) only [go_sem, ↓reduceIte, Nat.reduceEqDiff, Nat.reduceAdd, Nat.reduceMul, Nat.reduceSub, Int.reduceToNat, Int.reduceAdd, Int.reduceSub, Int.reduceMul, Int.reduceNeg] | with_reducible refine vIf_t ?_ | with_reducible refine vIf_f ?_)); refine vCall_eq (h1) (by simp (disch := omega) only [go_sem, Nat.reduceAdd]) rfl (by first | exact Or.inl rfl | exact Or.inr ⟨rfl, rfl⟩ | (apply Or.inr; simp only [go_sem])) ?_; (repeat (first | simp (maxSteps := 2000000) (disch := omega) only [go_sem, ↓reduceIte, Nat.reduceEqDiff, Nat.reduceAdd, Nat.reduceMul, Nat.reduceSub, Int.reduceToNat, Int.reduceAdd, Int.reduceSub, Int.reduceMul, Int.reduceNeg] | with_reducible refine vIf_t ?_ | with_reducible refine vIf_f ?_)))
  cases hs : okS s with
  | false =>
    have ec : rsC s os a b = 1 := by simp [rsC, hs]
    simp only [rsQ, ec]
    (repeat (first | simp (maxSteps := 2000000) (disch := omega) only [go_sem, ↓reduceIte, Nat.reduceEqDiff, Nat.reduceAdd, Nat.reduceMul, Nat.reduceSub, Int.reduceToNat, Int.reduceAdd, Int.reduceSub, Int.reduceMul, Int.reduceNeg, hs] | with_reducible refine vIf_t ?_ | with_reducible refine vIf_f ?_))
    (refine retK_of ?_; (repeat (first | simp (maxSteps := 2000000) (disch := omega) only [go_sem, ↓reduceIte, Nat.reduceEqDiff, Nat.reduceAdd, Nat.reduceMul, Nat.reduceSub, Int.reduceToNat, Int.reduceAdd, Int.reduceSub, Int.reduceMul, Int.reduceNeg] | with_reducible refine vIf_t ?_ | with_reducible refine vIf_f ?_)))
    simp [cGt]
  | true =>
    (repeat (first | simp (maxSteps := 2000000) (disch := omega) only [go_sem, ↓reduceIte, Nat.reduceEqDiff, Nat.reduceAdd, Nat.reduceMul, Nat.reduceSub, Int.reduceToNat, Int.reduceAdd, Int.reduceSub, Int.reduceMul, Int.reduceNeg, hs] | with_reducible refine vIf_t ?_ | with_reducible refine vIf_f ?_))
    (refine vCallX_of ?_; (repeat (first | simp (maxSteps := 2000000) (disch := omega) only [go_sem, ↓reduceIte, Nat.reduceEqDiff, Nat.reduceAdd, Nat.reduceMul, Nat.reduceSub, Int.reduceToNat, Int.reduceAdd, Int.reduceSub, Int.reduceMul, Int.reduceNeg] | with_reducible refine vIf_t ?_ | with_reducible refine vIf_f ?_)); refine vCall_eq (h2) (by simp (disch := omega) only [go_sem, Nat.reduceAdd]) rfl (by first | exact Or.inl rfl | exact Or.inr ⟨rfl, rfl⟩ | (apply Or.inr; simp only [go_sem])) ?_; (repeat (first | simp (maxSteps := 2000000) (disch := omega) only [go_sem, ↓reduceIte, Nat.reduceEqDiff, Nat.reduceAdd, Nat.reduceMul, Nat.reduceSub, Int.reduceToNat, Int.reduceAdd, Int.reduceSub, Int.reduceMul, Int.reduceNeg] | with_reducible refine vIf_t ?_ | with_reducible refine vIf_f ?_)))
    cases hd : sdB a b with
    | false =>
      have ec : rsC s os a b = 2 := by simp [rsC, hs, hd]
      simp only [rsQ, ec]
      (repeat (first | simp (maxSteps := 2000000) (disch := omega) only [go_sem, ↓reduceIte, Nat.reduceEqDiff, Nat.reduceAdd, Nat.reduceMul, Nat.reduceSub, Int.reduceToNat, Int.reduceAdd, Int.reduceSub, Int.reduceMul, Int.reduceNeg, hd] | with_reducible refine vIf_t ?_ | with_reducible refine vIf_f ?_))
      (refine retK_of ?_; (repeat (first | simp (maxSteps := 2000000) (disch := omega) only [go_sem, ↓reduceIte, Nat.reduceEqDiff, Nat.reduceAdd, Nat.reduceMul, Nat.reduceSub, Int.reduceToNat, Int.reduceAdd, Int.reduceSub, Int.reduceMul, Int.reduceNeg] | with_reducible refine vIf_t ?_ | with_reducible refine vIf_f ?_)))
      simp [cGt]
    | true =>
      by_cases hl : os.length = a.length
      case neg =>
        have hlb : ((os.length : Int) != (a.length : Int)) = true := by simp; omega
        have ec : rsC s os a b = 2 := by rw [rsC, if_pos hs, if_neg (fun h => hl h.2.1)]
        simp only [rsQ, ec]
        (repeat (first | simp (maxSteps := 2000000) (disch := omega) only [go_sem, ↓reduceIte, Nat.reduceEqDiff, Nat.reduceAdd, Nat.reduceMul, Nat.reduceSub, Int.reduceToNat, Int.reduceAdd, Int.reduceSub, Int.reduceMul, Int.reduceNeg, hd, hlb] | with_reducible refine vIf_t ?_ | with_reducible refine vIf_f ?_))
        (refine retK_of ?_; (repeat (first | simp (maxSteps := 2000000) (disch := omega) only [go_sem, ↓reduceIte, Nat.reduceEqDiff, Nat.reduceAdd, Nat.reduceMul, Nat.reduceSub, Int.reduceToNat, Int.reduceAdd, Int.reduceSub, Int.reduceMul, Int.reduceNeg] | with_reducible refine vIf_t ?_ | with_reducible refine vIf_f ?_)))
        simp [cGt]
      have hlb : ((os.length : Int) != (a.length : Int)) = false := by simp; omega
      (repeat (first | simp (maxSteps := 2000000) (disch := omega) only [go_sem, ↓reduceIte, Nat.reduceEqDiff, Nat.reduceAdd, Nat.reduceMul, Nat.reduceSub, Int.reduceToNat, Int.reduceAdd, Int.reduceSub, Int.reduceMul, Int.reduceNeg, hd, hlb] | with_reducible refine vIf_t ?_ | with_reducible refine vIf_f ?_))
      (refine vCallX_of ?_; (repeat (first | simp (maxSteps := 2000000) (disch := omega) only [go_sem, ↓reduceIte, Nat.reduceEqDiff, Nat.reduceAdd, Nat.reduceMul, Nat.reduceSub, Int.reduceToNat, Int.reduceAdd, Int.reduceSub, Int.reduceMul, Int.reduceNeg] | with_reducible refine vIf_t ?_ | with_reducible refine vIf_f ?_)); refine vCall_eq (hall) (by simp (disch := omega) only [go_sem, Nat.reduceAdd]) rfl (by first | exact Or.inl rfl | exact Or.inr ⟨rfl, rfl⟩ | (apply Or.inr; simp only [go_sem])) ?_; (repeat (first | simp (maxSteps := 2000000) (disch := omega) only [go_sem, ↓reduceIte, Nat.reduceEqDiff, Nat.reduceAdd, Nat.reduceMul, Nat.reduceSub, Int.reduceToNat, Int.reduceAdd, Int.reduceSub, Int.reduceMul, Int.reduceNeg] | with_reducible refine vIf_t ?_ | with_reducible refine vIf_f ?_)))
      cases hob : orB os with
      | false =>
        have hob2 : (os.all fun n => decide (0 ≤ n ∧ n ≤ 2)) = false := hob
        have ec : rsC s os a b = 2 := by rw [rsC, if_pos hs, if_neg (fun h => by rw [hob] at h; simp at h)]
        simp only [rsQ, ec]
        (repeat (first | simp (maxSteps := 2000000) (disch := omega) only [go_sem, ↓reduceIte, Nat.reduceEqDiff, Nat.reduceAdd, Nat.reduceMul, Nat.reduceSub, Int.reduceToNat, Int.reduceAdd, Int.reduceSub, Int.reduceMul, Int.reduceNeg, hob2] | with_reducible refine vIf_t ?_ | with_reducible refine vIf_f ?_))
        (refine retK_of ?_; (repeat (first | simp (maxSteps := 2000000) (disch := omega) only [go_sem, ↓reduceIte, Nat.reduceEqDiff, Nat.reduceAdd, Nat.reduceMul, Nat.reduceSub, Int.reduceToNat, Int.reduceAdd, Int.reduceSub, Int.reduceMul, Int.reduceNeg] | with_reducible refine vIf_t ?_ | with_reducible refine vIf_f ?_)))
        simp [cGt]
      | true =>
        have hob2 : (os.all fun n => decide (0 ≤ n ∧ n ≤ 2)) = true := hob
        have ec : rsC s os a b = (sgK s os a b a.length).2 := by rw [rsC, if_pos hs, if_pos ⟨hd, hl, hob⟩]
        have D := sd_ok hd
        have hn := D.n
        have he := D.e
        (repeat (first | simp (maxSteps := 2000000) (disch := omega) only [go_sem, ↓reduceIte, Nat.reduceEqDiff, Nat.reduceAdd, Nat.reduceMul, Nat.reduceSub, Int.reduceToNat, Int.reduceAdd, Int.reduceSub, Int.reduceMul, Int.reduceNeg, hob2] | with_reducible refine vIf_t ?_ | with_reducible refine vIf_f ?_))
        refine vcLoop_invF (fun k : Nat => k ≤ a.length ∧ (sgK s os a b k).2 = 0) (fun k => ⟨74, 0, [(43, I k), (11, .ptr 0 0), (10, .ref 1 0 k), (3, .sl b.length (ints b)), (2, .sl a.length (ints a)), (4, .ptr 2 0), (41, .sl os.length (ints os)), (42, I os.length)], [some ⟨3, [B (sgK s os a b k).1.op, I (sgK s os a b k).1.ps, I (sgK s os a b k).1.mv]⟩, some ⟨3, cGt (sgL s os a b k)⟩, some ⟨2, [I s.wd, I s.sill]⟩]⟩) (fun k => a.length - k) 0 ⟨by omega, rfl⟩ (by rw [sgK0]; (first | (refine leF_s ?_; ((repeat (first | simp (maxSteps := 2000000) (disch := omega) only [go_sem, ↓reduceIte, Nat.reduceEqDiff, Nat.reduceAdd, Nat.reduceMul, Nat.reduceSub, Int.reduceToNat, Int.reduceAdd, Int.reduceSub, Int.reduceMul, Int.reduceNeg] | with_reducible refine vIf_t ?_ | with_reducible refine vIf_f ?_)); all_goals (try simp); all_goals (try omega)); done) | (refine leF_p ?_; ((repeat (first | simp (maxSteps := 2000000) (disch := omega) only [go_sem, ↓reduceIte, Nat.reduceEqDiff, Nat.reduceAdd, Nat.reduceMul, Nat.reduceSub, Int.reduceToNat, Int.reduceAdd, Int.reduceSub, Int.reduceMul, Int.reduceNeg] | with_reducible refine vIf_t ?_ | with_reducible refine vIf_f ?_)); all_goals (try simp); all_goals (try omega)); done))) ?_
        intro k ⟨hk, hz⟩
        have hol := sgL_len s os a b k
        have hos := sgL_succ s os a b k
        (repeat (first | simp (maxSteps := 2000000) (disch := omega) only [go_sem, ↓reduceIte, Nat.reduceEqDiff, Nat.reduceAdd, Nat.reduceMul, Nat.reduceSub, Int.reduceToNat, Int.reduceAdd, Int.reduceSub, Int.reduceMul, Int.reduceNeg] | with_reducible refine vIf_t ?_ | with_reducible refine vIf_f ?_))
        refine vIf_dec (fun hh => ?_) (fun hh => ?_)
        · have hkl : k < a.length := by omega
          have hg := sgK_ok s os a b k hz
          have hor : 0 ≤ gi os k ∧ gi os k ≤ 2 := of_decide_eq_true (List.all_eq_true.1 hob2 _ (gi_mem os k (by omega)))
          have hst := step_ok s (sgK s os a b k).1 (gi os k) (gi a k) (gi b k) hs hg (D.al k hkl) (D.bl k hkl) hor
          have hsk : sgK s os a b (k + 1) = stp s (sgK s os a b k).1 (gi os k) (gi a k) (gi b k) := by rw [sgK, if_pos hz]
          rw [← hsk] at hst
          have hstop := sgK_stop s os a b (k + 1) a.length
          generalize hnx : sgK s os a b (k + 1) = nx at *
          generalize sgK s os a b k = nw at *
          unfold Slc.cells Gt.cells at hst
          (repeat (first | simp (maxSteps := 2000000) (disch := omega) only [go_sem, ↓reduceIte, Nat.reduceEqDiff, Nat.reduceAdd, Nat.reduceMul, Nat.reduceSub, Int.reduceToNat, Int.reduceAdd, Int.reduceSub, Int.reduceMul, Int.reduceNeg] | with_reducible refine vIf_t ?_ | with_reducible refine vIf_f ?_))
          (refine vDraw_tr 17 (.rd 0 (.rd 1 (.rd 2 (.rd 3 (.rd 4 (.rd 5 (.rd 6 (.rd 7 (.rd 8 (.rd 9 (.rd 10 (.alt 11 (.rd 12 (.rd 13 (.rd 14 (.alt 15 (.alt 16 (.done) (.stop)) (.stop))))) (.alt 15 (.alt 11 (.rd 12 (.rd 13 (.rd 14 (.alt 16 (.done) (.stop))))) (.stop)) (.stop)))))))))))))) (fun _ : Unit => True) (fun _ => ⟨74, 0, [(62, I nx.2), (11, .ptr 0 0), (3, .sl b.length (ints b)), (2, .sl a.length (ints a)), (4, .ptr 1 0), (41, .sl os.length (ints os)), (42, I os.length), (43, I k), (10, .ref 2 0 k), (14, .ptr 3 0)], [some ⟨3, [B nw.1.op, I nw.1.ps, I nw.1.mv]⟩, some ⟨2, [I s.wd, I s.sill]⟩, some ⟨3, cGt (sgL s os a b k)⟩, some ⟨3, [B nx.1.op, I nx.1.ps, I nx.1.mv]⟩]⟩) mixed (by kernel_rfl) ?_ ?_)
          · (repeat (first | simp (maxSteps := 2000000) (disch := omega) only [go_sem, ↓reduceIte, Nat.reduceEqDiff, Nat.reduceAdd, Nat.reduceMul, Nat.reduceSub, Int.reduceToNat, Int.reduceAdd, Int.reduceSub, Int.reduceMul, Int.reduceNeg] | with_reducible refine vIf_t ?_ | with_reducible refine vIf_f ?_))
            repeat' (first | refine And.intro ?_ ?_ | (refine vsCallX_of ?_; (try (repeat (first | simp (maxSteps := 2000000) (disch := omega) only [go_sem, ↓reduceIte, Nat.reduceEqDiff, Nat.reduceAdd, Nat.reduceMul, Nat.reduceSub, Int.reduceToNat, Int.reduceAdd, Int.reduceSub, Int.reduceMul, Int.reduceNeg] | with_reducible refine vIf_t ?_ | with_reducible refine vIf_f ?_))); refine vCall_eq (hst) (by simp (disch := omega) only [go_sem, Nat.reduceAdd]) rfl (by first | exact Or.inl rfl | exact Or.inr ⟨rfl, rfl⟩ | (apply Or.inr; simp only [go_sem])) ?_; (try (repeat (first | simp (maxSteps := 2000000) (disch := omega) only [go_sem, ↓reduceIte, Nat.reduceEqDiff, Nat.reduceAdd, Nat.reduceMul, Nat.reduceSub, Int.reduceToNat, Int.reduceAdd, Int.reduceSub, Int.reduceMul, Int.reduceNeg] | with_reducible refine vIf_t ?_ | with_reducible refine vIf_f ?_)))) | (refine ⟨(), _, Frz.refl _, Or.inr ?_⟩; (repeat (first | simp (maxSteps := 2000000) (disch := omega) only [go_sem, ↓reduceIte, Nat.reduceEqDiff, Nat.reduceAdd, Nat.reduceMul, Nat.reduceSub, Int.reduceToNat, Int.reduceAdd, Int.reduceSub, Int.reduceMul, Int.reduceNeg] | with_reducible refine vIf_t ?_ | with_reducible refine vIf_f ?_))))
          intro _ _
          simp only [List.drop_succ_cons, List.drop_zero, List.drop_nil]
          (try (repeat (first | simp (maxSteps := 2000000) (disch := omega) only [go_sem, ↓reduceIte, Nat.reduceEqDiff, Nat.reduceAdd, Nat.reduceMul, Nat.reduceSub, Int.reduceToNat, Int.reduceAdd, Int.reduceSub, Int.reduceMul, Int.reduceNeg] | with_reducible refine vIf_t ?_ | with_reducible refine vIf_f ?_)))
          by_cases hc : nx.2 = 0
          · have hcb : (nx.2 != 0) = false := by simpa using hc
            (repeat (first | simp (maxSteps := 2000000) (disch := omega) only [go_sem, ↓reduceIte, Nat.reduceEqDiff, Nat.reduceAdd, Nat.reduceMul, Nat.reduceSub, Int.reduceToNat, Int.reduceAdd, Int.reduceSub, Int.reduceMul, Int.reduceNeg, hcb, hol] | with_reducible refine vIf_t ?_ | with_reducible refine vIf_f ?_))
            refine againF (k + 1) ⟨by omega, by rw [hnx]; exact hc⟩ (by omega) ?_
            rw [hnx, hos]
            (first | (refine leF_s ?_; ((repeat (first | simp (maxSteps := 2000000) (disch := omega) only [go_sem, ↓reduceIte, Nat.reduceEqDiff, Nat.reduceAdd, Nat.reduceMul, Nat.reduceSub, Int.reduceToNat, Int.reduceAdd, Int.reduceSub, Int.reduceMul, Int.reduceNeg] | with_reducible refine vIf_t ?_ | with_reducible refine vIf_f ?_)); all_goals (try simp); all_goals (try omega)); done) | (refine leF_p ?_; ((repeat (first | simp (maxSteps := 2000000) (disch := omega) only [go_sem, ↓reduceIte, Nat.reduceEqDiff, Nat.reduceAdd, Nat.reduceMul, Nat.reduceSub, Int.reduceToNat, Int.reduceAdd, Int.reduceSub, Int.reduceMul, Int.reduceNeg] | with_reducible refine vIf_t ?_ | with_reducible refine vIf_f ?_)); all_goals (try simp); all_goals (try omega)); done))
          · have hcb : (nx.2 != 0) = true := by simpa using hc
            have ec2 : rsC s os a b = nx.2 := by rw [ec, hstop hc (by omega)]
            simp only [rsQ, ec2, if_neg hc]
            (repeat (first | simp (maxSteps := 2000000) (disch := omega) only [go_sem, ↓reduceIte, Nat.reduceEqDiff, Nat.reduceAdd, Nat.reduceMul, Nat.reduceSub, Int.reduceToNat, Int.reduceAdd, Int.reduceSub, Int.reduceMul, Int.reduceNeg, hcb] | with_reducible refine vIf_t ?_ | with_reducible refine vIf_f ?_))
            (refine retK_of ?_; (repeat (first | simp (maxSteps := 2000000) (disch := omega) only [go_sem, ↓reduceIte, Nat.reduceEqDiff, Nat.reduceAdd, Nat.reduceMul, Nat.reduceSub, Int.reduceToNat, Int.reduceAdd, Int.reduceSub, Int.reduceMul, Int.reduceNeg] | with_reducible refine vIf_t ?_ | with_reducible refine vIf_f ?_)))
            try simp [cGt]
        · have hke : k = a.length := by omega
          subst hke
          rw [hz] at ec
          simp only [rsQ, ec, if_true, sgL_len]
          (repeat (first | simp (maxSteps := 2000000) (disch := omega) only [go_sem, ↓reduceIte, Nat.reduceEqDiff, Nat.reduceAdd, Nat.reduceMul, Nat.reduceSub, Int.reduceToNat, Int.reduceAdd, Int.reduceSub, Int.reduceMul, Int.reduceNeg] | with_reducible refine vIf_t ?_ | with_reducible refine vIf_f ?_))
          (refine retK_of ?_; (repeat (first | simp (maxSteps := 2000000) (disch := omega) only [go_sem, ↓reduceIte, Nat.reduceEqDiff, Nat.reduceAdd, Nat.reduceMul, Nat.reduceSub, Int.reduceToNat, Int.reduceAdd, Int.reduceSub, Int.reduceMul, Int.reduceNeg] | with_reducible refine vIf_t ?_ | with_reducible refine vIf_f ?_)))
def GtO (xs : List Gt) (c : Int) (r : V) (o : Objs) : Prop := (c = 0 ∧ r = .tup [.ref 0 0 xs.length, I c] ∧ o = [some ⟨3, cGt xs⟩]) ∨ (c ≠ 0 ∧ xs = [] ∧ r = .tup [.sc (.slice none 0 0), I c] ∧ o = [])
theorem GtO.row {xs : List Gt} {c : Int} {r : V} {o : Objs} (h : GtO xs c r o) : GtR xs c r o := h.elim (fun h => .inl h.2) (fun h => .inr h.2)
set_option maxHeartbeats 8000000 in
theorem runSlS_own (s : Slc) (os a b : List Int) (ho : os.length ≤ 10000000) (ha : a.length ≤ 10000000) (hb : b.length ≤ 10000000) : ACalls Try.prog 19 [.agg s.cells, .sl os.length (ints os), .sl a.length (ints a), .sl b.length (ints b)] [] (GtO (rsQ s os a b) (rsC s os a b)) := by
  unfold GtO
  refine ACalls.of_vc Try.func19 rfl (by decide) 84 rfl [.tmp 8, .tmp 9] rfl (by simp) ?_
  have h1 := l09Ser_ok s a b ha hb
  unfold Slc.cells at h1 ⊢
  cases hs : okS s with
  | false =>
    have ec : rsC s os a b = 1 := by simp [rsC, hs]
    rw [hs] at h1
    simp only [rsQ, ec]
    (repeat (first | simp (maxSteps := 2000000) (disch := omega) only [go_sem, ↓reduceIte, Nat.reduceEqDiff, Nat.reduceAdd, Nat.reduceMul, Nat.reduceSub, Int.reduceToNat, Int.reduceAdd, Int.reduceSub, Int.reduceMul, Int.reduceNeg] | with_reducible refine vIf_t ?_ | with_reducible refine vIf_f ?_))
    (refine vCallX_of ?_; (repeat (first | simp (maxSteps := 2000000) (disch := omega) only [go_sem, ↓reduceIte, Nat.reduceEqDiff, Nat.reduceAdd, Nat.reduceMul, Nat.reduceSub, Int.reduceToNat, Int.reduceAdd, Int.reduceSub, Int.reduceMul, Int.reduceNeg] | with_reducible refine vIf_t ?_ | with_reducible refine vIf_f ?_)); refine vCall_eq (h1) (by simp (disch := omega) only [go_sem, Nat.reduceAdd]) rfl (by first | exact Or.inl rfl | exact Or.inr ⟨rfl, rfl⟩ | (apply Or.inr; simp only [go_sem])) ?_; (repeat (first | simp (maxSteps := 2000000) (disch := omega) only [go_sem, ↓reduceIte, Nat.reduceEqDiff, Nat.reduceAdd, Nat.reduceMul, Nat.reduceSub, Int.reduceToNat, Int.reduceAdd, Int.reduceSub, Int.reduceMul, Int.reduceNeg] | with_reducible refine vIf_t ?_ | with_reducible refine vIf_f ?_)))
    refine vcLoop_invF (fun _ : Unit => True) (fun _ => ⟨84, 0, [(11, I 0), (1, .sl os.length (ints os)), (10, I 1), (3, .sl b.length (ints b)), (2, .sl a.length (ints a)), (4, .ptr 0 0)], [some ⟨2, [I s.wd, I s.sill]⟩]⟩) (fun _ => 0) () trivial (by (first | (refine leF_s ?_; ((repeat (first | simp (maxSteps := 2000000) (disch := omega) only [go_sem, ↓reduceIte, Nat.reduceEqDiff, Nat.reduceAdd, Nat.reduceMul, Nat.reduceSub, Int.reduceToNat, Int.reduceAdd, Int.reduceSub, Int.reduceMul, Int.reduceNeg] | with_reducible refine vIf_t ?_ | with_reducible refine vIf_f ?_)); all_goals (try simp); all_goals (try omega)); done) | (refine leF_p ?_; ((repeat (first | simp (maxSteps := 2000000) (disch := omega) only [go_sem, ↓reduceIte, Nat.reduceEqDiff, Nat.reduceAdd, Nat.reduceMul, Nat.reduceSub, Int.reduceToNat, Int.reduceAdd, Int.reduceSub, Int.reduceMul, Int.reduceNeg] | with_reducible refine vIf_t ?_ | with_reducible refine vIf_f ?_)); all_goals (try simp); all_goals (try omega)); done))) ?_
    intro _ _
    by_cases hz : 0 < os.length
    · have hzb : decide (0 < (os.length : Int)) = true := decide_eq_true (by omega)
      (repeat (first | simp (maxSteps := 2000000) (disch := omega) only [go_sem, ↓reduceIte, Nat.reduceEqDiff, Nat.reduceAdd, Nat.reduceMul, Nat.reduceSub, Int.reduceToNat, Int.reduceAdd, Int.reduceSub, Int.reduceMul, Int.reduceNeg, hzb] | with_reducible refine vIf_t ?_ | with_reducible refine vIf_f ?_))
      (refine retK_of ?_; (repeat (first | simp (maxSteps := 2000000) (disch := omega) only [go_sem, ↓reduceIte, Nat.reduceEqDiff, Nat.reduceAdd, Nat.reduceMul, Nat.reduceSub, Int.reduceToNat, Int.reduceAdd, Int.reduceSub, Int.reduceMul, Int.reduceNeg] | with_reducible refine vIf_t ?_ | with_reducible refine vIf_f ?_)))
      first | exact trivial | (simp; done)
    · have hzb : decide (0 < (os.length : Int)) = false := decide_eq_false (by omega)
      (repeat (first | simp (maxSteps := 2000000) (disch := omega) only [go_sem, ↓reduceIte, Nat.reduceEqDiff, Nat.reduceAdd, Nat.reduceMul, Nat.reduceSub, Int.reduceToNat, Int.reduceAdd, Int.reduceSub, Int.reduceMul, Int.reduceNeg, hzb] | with_reducible refine vIf_t ?_ | with_reducible refine vIf_f ?_))
      (refine retK_of ?_; (repeat (first | simp (maxSteps := 2000000) (disch := omega) only [go_sem, ↓reduceIte, Nat.reduceEqDiff, Nat.reduceAdd, Nat.reduceMul, Nat.reduceSub, Int.reduceToNat, Int.reduceAdd, Int.reduceSub, Int.reduceMul, Int.reduceNeg] | with_reducible refine vIf_t ?_ | with_reducible refine vIf_f ?_)))
      first | exact trivial | (simp; done)
  | true =>
    cases hd : sdB a b with
    | false =>
      have ec : rsC s os a b = 2 := by simp [rsC, hs, hd]
      rw [hs, hd] at h1
      simp only [rsQ, ec]
      (repeat (first | simp (maxSteps := 2000000) (disch := omega) only [go_sem, ↓reduceIte, Nat.reduceEqDiff, Nat.reduceAdd, Nat.reduceMul, Nat.reduceSub, Int.reduceToNat, Int.reduceAdd, Int.reduceSub, Int.reduceMul, Int.reduceNeg] | with_reducible refine vIf_t ?_ | with_reducible refine vIf_f ?_))
      (refine vCallX_of ?_; (repeat (first | simp (maxSteps := 2000000) (disch := omega) only [go_sem, ↓reduceIte, Nat.reduceEqDiff, Nat.reduceAdd, Nat.reduceMul, Nat.reduceSub, Int.reduceToNat, Int.reduceAdd, Int.reduceSub, Int.reduceMul, Int.reduceNeg] | with_reducible refine vIf_t ?_ | with_reducible refine vIf_f ?_)); refine vCall_eq (h1) (by simp (disch := omega) only [go_sem, Nat.reduceAdd]) rfl (by first | exact Or.inl rfl | exact Or.inr ⟨rfl, rfl⟩ | (apply Or.inr; simp only [go_sem])) ?_; (repeat (first | simp (maxSteps := 2000000) (disch := omega) only [go_sem, ↓reduceIte, Nat.reduceEqDiff, Nat.reduceAdd, Nat.reduceMul, Nat.reduceSub, Int.reduceToNat, Int.reduceAdd, Int.reduceSub, Int.reduceMul, Int.reduceNeg] | with_reducible refine vIf_t ?_ | with_reducible refine vIf_f ?_)))
      refine vcLoop_invF (fun _ : Unit => True) (fun _ => ⟨84, 0, [(11, I 0), (1, .sl os.length (ints os)), (10, I 2), (3, .sl b.length (ints b)), (2, .sl a.length (ints a)), (4, .ptr 0 0)], [some ⟨2, [I s.wd, I s.sill]⟩]⟩) (fun _ => 0) () trivial (by (first | (refine leF_s ?_; ((repeat (first | simp (maxSteps := 2000000) (disch := omega) only [go_sem, ↓reduceIte, Nat.reduceEqDiff, Nat.reduceAdd, Nat.reduceMul, Nat.reduceSub, Int.reduceToNat, Int.reduceAdd, Int.reduceSub, Int.reduceMul, Int.reduceNeg] | with_reducible refine vIf_t ?_ | with_reducible refine vIf_f ?_)); all_goals (try simp); all_goals (try omega)); done) | (refine leF_p ?_; ((repeat (first | simp (maxSteps := 2000000) (disch := omega) only [go_sem, ↓reduceIte, Nat.reduceEqDiff, Nat.reduceAdd, Nat.reduceMul, Nat.reduceSub, Int.reduceToNat, Int.reduceAdd, Int.reduceSub, Int.reduceMul, Int.reduceNeg] | with_reducible refine vIf_t ?_ | with_reducible refine vIf_f ?_)); all_goals (try simp); all_goals (try omega)); done))) ?_
      intro _ _
      by_cases hz : 0 < os.length
      · have hzb : decide (0 < (os.length : Int)) = true := decide_eq_true (by omega)
        (repeat (first | simp (maxSteps := 2000000) (disch := omega) only [go_sem, ↓reduceIte, Nat.reduceEqDiff, Nat.reduceAdd, Nat.reduceMul, Nat.reduceSub, Int.reduceToNat, Int.reduceAdd, Int.reduceSub, Int.reduceMul, Int.reduceNeg, hzb] | with_reducible refine vIf_t ?_ | with_reducible refine vIf_f ?_))
        (refine retK_of ?_; (repeat (first | simp (maxSteps := 2000000) (disch := omega) only [go_sem, ↓reduceIte, Nat.reduceEqDiff, Nat.reduceAdd, Nat.reduceMul, Nat.reduceSub, Int.reduceToNat, Int.reduceAdd, Int.reduceSub, Int.reduceMul, Int.reduceNeg] | with_reducible refine vIf_t ?_ | with_reducible refine vIf_f ?_)))
        first | exact trivial | (simp; done)
      · have hzb : decide (0 < (os.length : Int)) = false := decide_eq_false (by omega)
        (repeat (first | simp (maxSteps := 2000000) (disch := omega) only [go_sem, ↓reduceIte, Nat.reduceEqDiff, Nat.reduceAdd, Nat.reduceMul, Nat.reduceSub, Int.reduceToNat, Int.reduceAdd, Int.reduceSub, Int.reduceMul, Int.reduceNeg, hzb] | with_reducible refine vIf_t ?_ | with_reducible refine vIf_f ?_))
        (refine retK_of ?_; (repeat (first | simp (maxSteps := 2000000) (disch := omega) only [go_sem, ↓reduceIte, Nat.reduceEqDiff, Nat.reduceAdd, Nat.reduceMul, Nat.reduceSub, Int.reduceToNat, Int.reduceAdd, Int.reduceSub, Int.reduceMul, Int.reduceNeg] | with_reducible refine vIf_t ?_ | with_reducible refine vIf_f ?_)))
        first | exact trivial | (simp; done)
    | true =>
      rw [hs, hd] at h1
      by_cases hl : os.length = a.length
      case neg =>
        have hlb : ((os.length : Int) != (a.length : Int)) = true := by simp; omega
        have ec : rsC s os a b = 2 := by rw [rsC, if_pos hs, if_neg (fun h => hl h.2.1)]
        simp only [rsQ, ec]
        (repeat (first | simp (maxSteps := 2000000) (disch := omega) only [go_sem, ↓reduceIte, Nat.reduceEqDiff, Nat.reduceAdd, Nat.reduceMul, Nat.reduceSub, Int.reduceToNat, Int.reduceAdd, Int.reduceSub, Int.reduceMul, Int.reduceNeg] | with_reducible refine vIf_t ?_ | with_reducible refine vIf_f ?_))
        (refine vCallX_of ?_; (repeat (first | simp (maxSteps := 2000000) (disch := omega) only [go_sem, ↓reduceIte, Nat.reduceEqDiff, Nat.reduceAdd, Nat.reduceMul, Nat.reduceSub, Int.reduceToNat, Int.reduceAdd, Int.reduceSub, Int.reduceMul, Int.reduceNeg] | with_reducible refine vIf_t ?_ | with_reducible refine vIf_f ?_)); refine vCall_eq (h1) (by simp (disch := omega) only [go_sem, Nat.reduceAdd]) rfl (by first | exact Or.inl rfl | exact Or.inr ⟨rfl, rfl⟩ | (apply Or.inr; simp only [go_sem])) ?_; (repeat (first | simp (maxSteps := 2000000) (disch := omega) only [go_sem, ↓reduceIte, Nat.reduceEqDiff, Nat.reduceAdd, Nat.reduceMul, Nat.reduceSub, Int.reduceToNat, Int.reduceAdd, Int.reduceSub, Int.reduceMul, Int.reduceNeg] | with_reducible refine vIf_t ?_ | with_reducible refine vIf_f ?_)))
        (repeat (first | simp (maxSteps := 2000000) (disch := omega) only [go_sem, ↓reduceIte, Nat.reduceEqDiff, Nat.reduceAdd, Nat.reduceMul, Nat.reduceSub, Int.reduceToNat, Int.reduceAdd, Int.reduceSub, Int.reduceMul, Int.reduceNeg, hlb] | with_reducible refine vIf_t ?_ | with_reducible refine vIf_f ?_))
        refine vcLoop_invF (fun _ : Unit => True) (fun _ => ⟨84, 0, [(11, I 0), (1, .sl os.length (ints os)), (10, I 2), (3, .sl b.length (ints b)), (2, .sl a.length (ints a)), (4, .ptr 0 0)], [some ⟨2, [I s.wd, I s.sill]⟩]⟩) (fun _ => 0) () trivial (by (first | (refine leF_s ?_; ((repeat (first | simp (maxSteps := 2000000) (disch := omega) only [go_sem, ↓reduceIte, Nat.reduceEqDiff, Nat.reduceAdd, Nat.reduceMul, Nat.reduceSub, Int.reduceToNat, Int.reduceAdd, Int.reduceSub, Int.reduceMul, Int.reduceNeg] | with_reducible refine vIf_t ?_ | with_reducible refine vIf_f ?_)); all_goals (try simp); all_goals (try omega)); done) | (refine leF_p ?_; ((repeat (first | simp (maxSteps := 2000000) (disch := omega) only [go_sem, ↓reduceIte, Nat.reduceEqDiff, Nat.reduceAdd, Nat.reduceMul, Nat.reduceSub, Int.reduceToNat, Int.reduceAdd, Int.reduceSub, Int.reduceMul, Int.reduceNeg] | with_reducible refine vIf_t ?_ | with_reducible refine vIf_f ?_)); all_goals (try simp); all_goals (try omega)); done))) ?_
        intro _ _
        by_cases hz : 0 < os.length
        · have hzb : decide (0 < (os.length : Int)) = true := decide_eq_true (by omega)
          (repeat (first | simp (maxSteps := 2000000) (disch := omega) only [go_sem, ↓reduceIte, Nat.reduceEqDiff, Nat.reduceAdd, Nat.reduceMul, Nat.reduceSub, Int.reduceToNat, Int.reduceAdd, Int.reduceSub, Int.reduceMul, Int.reduceNeg, hzb] | with_reducible refine vIf_t ?_ | with_reducible refine vIf_f ?_))
          (refine retK_of ?_; (repeat (first | simp (maxSteps := 2000000) (disch := omega) only [go_sem, ↓reduceIte, Nat.reduceEqDiff, Nat.reduceAdd, Nat.reduceMul, Nat.reduceSub, Int.reduceToNat, Int.reduceAdd, Int.reduceSub, Int.reduceMul, Int.reduceNeg] | with_reducible refine vIf_t ?_ | with_reducible refine vIf_f ?_)))
          first | exact trivial | (simp; done)
        · have hzb : decide (0 < (os.length : Int)) = false := decide_eq_false (by omega)
          (repeat (first | simp (maxSteps := 2000000) (disch := omega) only [go_sem, ↓reduceIte, Nat.reduceEqDiff, Nat.reduceAdd, Nat.reduceMul, Nat.reduceSub, Int.reduceToNat, Int.reduceAdd, Int.reduceSub, Int.reduceMul, Int.reduceNeg, hzb] | with_reducible refine vIf_t ?_ | with_reducible refine vIf_f ?_))
          (refine retK_of ?_; (repeat (first | simp (maxSteps := 2000000) (disch := omega) only [go_sem, ↓reduceIte, Nat.reduceEqDiff, Nat.reduceAdd, Nat.reduceMul, Nat.reduceSub, Int.reduceToNat, Int.reduceAdd, Int.reduceSub, Int.reduceMul, Int.reduceNeg] | with_reducible refine vIf_t ?_ | with_reducible refine vIf_f ?_)))
          first | exact trivial | (simp; done)
      have hlb : ((os.length : Int) != (a.length : Int)) = false := by simp; omega
      have D := sd_ok hd
      have hn := D.n
      have he := D.e
      (repeat (first | simp (maxSteps := 2000000) (disch := omega) only [go_sem, ↓reduceIte, Nat.reduceEqDiff, Nat.reduceAdd, Nat.reduceMul, Nat.reduceSub, Int.reduceToNat, Int.reduceAdd, Int.reduceSub, Int.reduceMul, Int.reduceNeg] | with_reducible refine vIf_t ?_ | with_reducible refine vIf_f ?_))
      (refine vCallX_of ?_; (repeat (first | simp (maxSteps := 2000000) (disch := omega) only [go_sem, ↓reduceIte, Nat.reduceEqDiff, Nat.reduceAdd, Nat.reduceMul, Nat.reduceSub, Int.reduceToNat, Int.reduceAdd, Int.reduceSub, Int.reduceMul, Int.reduceNeg] | with_reducible refine vIf_t ?_ | with_reducible refine vIf_f ?_)); refine vCall_eq (h1) (by simp (disch := omega) only [go_sem, Nat.reduceAdd]) rfl (by first | exact Or.inl rfl | exact Or.inr ⟨rfl, rfl⟩ | (apply Or.inr; simp only [go_sem])) ?_; (repeat (first | simp (maxSteps := 2000000) (disch := omega) only [go_sem, ↓reduceIte, Nat.reduceEqDiff, Nat.reduceAdd, Nat.reduceMul, Nat.reduceSub, Int.reduceToNat, Int.reduceAdd, Int.reduceSub, Int.reduceMul, Int.reduceNeg] | with_reducible refine vIf_t ?_ | with_reducible refine vIf_f ?_)))
      (repeat (first | simp (maxSteps := 2000000) (disch := omega) only [go_sem, ↓reduceIte, Nat.reduceEqDiff, Nat.reduceAdd, Nat.reduceMul, Nat.reduceSub, Int.reduceToNat, Int.reduceAdd, Int.reduceSub, Int.reduceMul, Int.reduceNeg, hlb] | with_reducible refine vIf_t ?_ | with_reducible refine vIf_f ?_))
      refine vcLoop_invF (fun x : Nat × Bool => x.1 ≤ os.length ∧ (if x.2 = true then orB os = false else ∀ j, j < x.1 → 0 ≤ gi os j ∧ gi os j ≤ 2)) (fun x => ⟨84, 0, [(11, I x.1), (1, .sl os.length (ints os)), (10, I (if x.2 = true then 2 else 0)), (3, .sl b.length (ints b)), (2, .sl a.length (ints a)), (4, .ptr 0 0)], [some ⟨2, [I s.wd, I s.sill]⟩]⟩) (fun x => os.length - x.1) (0, false) ⟨by simp, by simp⟩ (by (first | (refine leF_s ?_; ((repeat (first | simp (maxSteps := 2000000) (disch := omega) only [go_sem, ↓reduceIte, Nat.reduceEqDiff, Nat.reduceAdd, Nat.reduceMul, Nat.reduceSub, Int.reduceToNat, Int.reduceAdd, Int.reduceSub, Int.reduceMul, Int.reduceNeg] | with_reducible refine vIf_t ?_ | with_reducible refine vIf_f ?_)); all_goals (try simp); all_goals (try omega)); done) | (refine leF_p ?_; ((repeat (first | simp (maxSteps := 2000000) (disch := omega) only [go_sem, ↓reduceIte, Nat.reduceEqDiff, Nat.reduceAdd, Nat.reduceMul, Nat.reduceSub, Int.reduceToNat, Int.reduceAdd, Int.reduceSub, Int.reduceMul, Int.reduceNeg] | with_reducible refine vIf_t ?_ | with_reducible refine vIf_f ?_)); all_goals (try simp); all_goals (try omega)); done))) ?_
      rintro ⟨k, bd⟩ ⟨hk, hj⟩
      simp only at hk hj
      cases bd with
      | true =>
        simp only [if_true] at hj
        have ec : rsC s os a b = 2 := by rw [rsC, if_pos hs, if_neg (fun h => by rw [hj] at h; simp at h)]
        simp only [rsQ, ec]
        by_cases hz : k < os.length
        · have hzb : decide ((k : Int) < (os.length : Int)) = true := decide_eq_true (by omega)
          (repeat (first | simp (maxSteps := 2000000) (disch := omega) only [go_sem, ↓reduceIte, Nat.reduceEqDiff, Nat.reduceAdd, Nat.reduceMul, Nat.reduceSub, Int.reduceToNat, Int.reduceAdd, Int.reduceSub, Int.reduceMul, Int.reduceNeg, hzb] | with_reducible refine vIf_t ?_ | with_reducible refine vIf_f ?_))
          (refine retK_of ?_; (repeat (first | simp (maxSteps := 2000000) (disch := omega) only [go_sem, ↓reduceIte, Nat.reduceEqDiff, Nat.reduceAdd, Nat.reduceMul, Nat.reduceSub, Int.reduceToNat, Int.reduceAdd, Int.reduceSub, Int.reduceMul, Int.reduceNeg] | with_reducible refine vIf_t ?_ | with_reducible refine vIf_f ?_)))
          first | exact trivial | (simp; done)
        · have hzb : decide ((k : Int) < (os.length : Int)) = false := decide_eq_false (by omega)
          (repeat (first | simp (maxSteps := 2000000) (disch := omega) only [go_sem, ↓reduceIte, Nat.reduceEqDiff, Nat.reduceAdd, Nat.reduceMul, Nat.reduceSub, Int.reduceToNat, Int.reduceAdd, Int.reduceSub, Int.reduceMul, Int.reduceNeg, hzb] | with_reducible refine vIf_t ?_ | with_reducible refine vIf_f ?_))
          (refine retK_of ?_; (repeat (first | simp (maxSteps := 2000000) (disch := omega) only [go_sem, ↓reduceIte, Nat.reduceEqDiff, Nat.reduceAdd, Nat.reduceMul, Nat.reduceSub, Int.reduceToNat, Int.reduceAdd, Int.reduceSub, Int.reduceMul, Int.reduceNeg] | with_reducible refine vIf_t ?_ | with_reducible refine vIf_f ?_)))
          first | exact trivial | (simp; done)
      | false =>
        simp only [Bool.false_eq_true, if_false] at hj
        by_cases hz : k < os.length
        · have hzb : decide ((k : Int) < (os.length : Int)) = true := decide_eq_true (by omega)
          (repeat (first | simp (maxSteps := 2000000) (disch := omega) only [go_sem, ↓reduceIte, Nat.reduceEqDiff, Nat.reduceAdd, Nat.reduceMul, Nat.reduceSub, Int.reduceToNat, Int.reduceAdd, Int.reduceSub, Int.reduceMul, Int.reduceNeg, hzb] | with_reducible refine vIf_t ?_ | with_reducible refine vIf_f ?_))
          (refine vCallX_of ?_; (repeat (first | simp (maxSteps := 2000000) (disch := omega) only [go_sem, ↓reduceIte, Nat.reduceEqDiff, Nat.reduceAdd, Nat.reduceMul, Nat.reduceSub, Int.reduceToNat, Int.reduceAdd, Int.reduceSub, Int.reduceMul, Int.reduceNeg] | with_reducible refine vIf_t ?_ | with_reducible refine vIf_f ?_)); refine vCall_eq (inS_ok (gi os k) 0 2) (by simp (disch := omega) only [go_sem, Nat.reduceAdd]) rfl (by first | exact Or.inl rfl | exact Or.inr ⟨rfl, rfl⟩ | (apply Or.inr; simp only [go_sem])) ?_; (repeat (first | simp (maxSteps := 2000000) (disch := omega) only [go_sem, ↓reduceIte, Nat.reduceEqDiff, Nat.reduceAdd, Nat.reduceMul, Nat.reduceSub, Int.reduceToNat, Int.reduceAdd, Int.reduceSub, Int.reduceMul, Int.reduceNeg] | with_reducible refine vIf_t ?_ | with_reducible refine vIf_f ?_)))
          by_cases h3 : 0 ≤ gi os k ∧ gi os k ≤ 2
          · have h3b : decide (0 ≤ gi os k ∧ gi os k ≤ 2) = true := decide_eq_true h3
            (repeat (first | simp (maxSteps := 2000000) (disch := omega) only [go_sem, ↓reduceIte, Nat.reduceEqDiff, Nat.reduceAdd, Nat.reduceMul, Nat.reduceSub, Int.reduceToNat, Int.reduceAdd, Int.reduceSub, Int.reduceMul, Int.reduceNeg, h3b] | with_reducible refine vIf_t ?_ | with_reducible refine vIf_f ?_))
            refine againF ((k + 1, false)) ?_ ?_ (by (first | (refine leF_s ?_; ((repeat (first | simp (maxSteps := 2000000) (disch := omega) only [go_sem, ↓reduceIte, Nat.reduceEqDiff, Nat.reduceAdd, Nat.reduceMul, Nat.reduceSub, Int.reduceToNat, Int.reduceAdd, Int.reduceSub, Int.reduceMul, Int.reduceNeg] | with_reducible refine vIf_t ?_ | with_reducible refine vIf_f ?_)); all_goals (try simp); all_goals (try omega)); done) | (refine leF_p ?_; ((repeat (first | simp (maxSteps := 2000000) (disch := omega) only [go_sem, ↓reduceIte, Nat.reduceEqDiff, Nat.reduceAdd, Nat.reduceMul, Nat.reduceSub, Int.reduceToNat, Int.reduceAdd, Int.reduceSub, Int.reduceMul, Int.reduceNeg] | with_reducible refine vIf_t ?_ | with_reducible refine vIf_f ?_)); all_goals (try simp); all_goals (try omega)); done)))
            · refine ⟨by simp only; omega, ?_⟩
              simp only [Bool.false_eq_true, if_false]
              intro j hj2
              by_cases e : j = k
              · rw [e]; exact h3
              · exact hj j (by omega)
            · simp only; omega
          · have h3b : decide (0 ≤ gi os k ∧ gi os k ≤ 2) = false := decide_eq_false h3
            (repeat (first | simp (maxSteps := 2000000) (disch := omega) only [go_sem, ↓reduceIte, Nat.reduceEqDiff, Nat.reduceAdd, Nat.reduceMul, Nat.reduceSub, Int.reduceToNat, Int.reduceAdd, Int.reduceSub, Int.reduceMul, Int.reduceNeg, h3b] | with_reducible refine vIf_t ?_ | with_reducible refine vIf_f ?_))
            refine againF ((k + 1, true)) ?_ ?_ (by (first | (refine leF_s ?_; ((repeat (first | simp (maxSteps := 2000000) (disch := omega) only [go_sem, ↓reduceIte, Nat.reduceEqDiff, Nat.reduceAdd, Nat.reduceMul, Nat.reduceSub, Int.reduceToNat, Int.reduceAdd, Int.reduceSub, Int.reduceMul, Int.reduceNeg] | with_reducible refine vIf_t ?_ | with_reducible refine vIf_f ?_)); all_goals (try simp); all_goals (try omega)); done) | (refine leF_p ?_; ((repeat (first | simp (maxSteps := 2000000) (disch := omega) only [go_sem, ↓reduceIte, Nat.reduceEqDiff, Nat.reduceAdd, Nat.reduceMul, Nat.reduceSub, Int.reduceToNat, Int.reduceAdd, Int.reduceSub, Int.reduceMul, Int.reduceNeg] | with_reducible refine vIf_t ?_ | with_reducible refine vIf_f ?_)); all_goals (try simp); all_goals (try omega)); done)))
            · refine ⟨by simp only; omega, ?_⟩
              simp only [if_true]
              rw [← Bool.not_eq_true]
              intro ha
              exact h3 (of_decide_eq_true (List.all_eq_true.1 ha _ (gi_mem os k hz)))
            · simp only; omega
        · have hzb : decide ((k : Int) < (os.length : Int)) = false := decide_eq_false (by omega)
          have hob : orB os = true := List.all_eq_true.2 fun x hx => by
            obtain ⟨j, hj3, rfl⟩ := List.mem_iff_getElem.1 hx
            have := hj j (by omega)
            rw [gi_lt os j hj3] at this
            exact decide_eq_true this
          have hob2 : (os.all fun n => decide (0 ≤ n ∧ n ≤ 2)) = true := hob
          have ec : rsC s os a b = (sgK s os a b a.length).2 := by rw [rsC, if_pos hs, if_pos ⟨hd, hl, hob⟩]
          (repeat (first | simp (maxSteps := 2000000) (disch := omega) only [go_sem, ↓reduceIte, Nat.reduceEqDiff, Nat.reduceAdd, Nat.reduceMul, Nat.reduceSub, Int.reduceToNat, Int.reduceAdd, Int.reduceSub, Int.reduceMul, Int.reduceNeg, hzb] | with_reducible refine vIf_t ?_ | with_reducible refine vIf_f ?_))
          clear hj hz hzb hk
          refine vcLoop_invF (fun k : Nat => k ≤ a.length ∧ (sgK s os a b k).2 = 0) (fun k => ⟨84, 0, [(14, I k), (13, .ptr 0 0), (12, .ref 1 0 k), (3, .sl b.length (ints b)), (2, .sl a.length (ints a)), (1, .sl os.length (ints os)), (4, .ptr 2 0)], [some ⟨3, [B (sgK s os a b k).1.op, I (sgK s os a b k).1.ps, I (sgK s os a b k).1.mv]⟩, some ⟨3, cGt (sgL s os a b k)⟩, some ⟨2, [I s.wd, I s.sill]⟩]⟩) (fun k => a.length - k) 0 ⟨by omega, rfl⟩ (by rw [sgK0]; (first | (refine leF_s ?_; ((repeat (first | simp (maxSteps := 2000000) (disch := omega) only [go_sem, ↓reduceIte, Nat.reduceEqDiff, Nat.reduceAdd, Nat.reduceMul, Nat.reduceSub, Int.reduceToNat, Int.reduceAdd, Int.reduceSub, Int.reduceMul, Int.reduceNeg] | with_reducible refine vIf_t ?_ | with_reducible refine vIf_f ?_)); all_goals (try simp); all_goals (try omega)); done) | (refine leF_p ?_; ((repeat (first | simp (maxSteps := 2000000) (disch := omega) only [go_sem, ↓reduceIte, Nat.reduceEqDiff, Nat.reduceAdd, Nat.reduceMul, Nat.reduceSub, Int.reduceToNat, Int.reduceAdd, Int.reduceSub, Int.reduceMul, Int.reduceNeg] | with_reducible refine vIf_t ?_ | with_reducible refine vIf_f ?_)); all_goals (try simp); all_goals (try omega)); done))) ?_
          intro k ⟨hk, hz⟩
          have hol := sgL_len s os a b k
          have hos := sgL_succ s os a b k
          (repeat (first | simp (maxSteps := 2000000) (disch := omega) only [go_sem, ↓reduceIte, Nat.reduceEqDiff, Nat.reduceAdd, Nat.reduceMul, Nat.reduceSub, Int.reduceToNat, Int.reduceAdd, Int.reduceSub, Int.reduceMul, Int.reduceNeg] | with_reducible refine vIf_t ?_ | with_reducible refine vIf_f ?_))
          refine vIf_dec (fun hh => ?_) (fun hh => ?_)
          · have hkl : k < a.length := by omega
            have hg := sgK_ok s os a b k hz
            have hor : 0 ≤ gi os k ∧ gi os k ≤ 2 := of_decide_eq_true (List.all_eq_true.1 hob2 _ (gi_mem os k (by omega)))
            have hst := l09Step_ok s (sgK s os a b k).1 (gi os k) (gi a k) (gi b k) hs hg (D.al k hkl) (D.bl k hkl) hor
            have hsk : sgK s os a b (k + 1) = stp s (sgK s os a b k).1 (gi os k) (gi a k) (gi b k) := by rw [sgK, if_pos hz]
            rw [← hsk] at hst
            have hstop := sgK_stop s os a b (k + 1) a.length
            generalize hnx : sgK s os a b (k + 1) = nx at *
            generalize sgK s os a b k = nw at *
            unfold Slc.cells Gt.cells at hst
            (repeat (first | simp (maxSteps := 2000000) (disch := omega) only [go_sem, ↓reduceIte, Nat.reduceEqDiff, Nat.reduceAdd, Nat.reduceMul, Nat.reduceSub, Int.reduceToNat, Int.reduceAdd, Int.reduceSub, Int.reduceMul, Int.reduceNeg] | with_reducible refine vIf_t ?_ | with_reducible refine vIf_f ?_))
            (refine vDraw_tr 20 (.rd 0 (.rd 1 (.rd 2 (.rd 3 (.rd 4 (.rd 5 (.rd 6 (.rd 7 (.rd 8 (.rd 9 (.rd 10 (.rd 11 (.rd 12 (.rd 13 (.alt 14 (.rd 15 (.rd 16 (.rd 17 (.alt 18 (.alt 19 (.done) (.stop)) (.stop))))) (.alt 18 (.alt 14 (.rd 15 (.rd 16 (.rd 17 (.alt 19 (.done) (.stop))))) (.stop)) (.stop))))))))))))))))) (fun _ : Unit => True) (fun _ => ⟨84, 0, [(74, I nx.2), (13, .ptr 0 0), (3, .sl b.length (ints b)), (2, .sl a.length (ints a)), (1, .sl os.length (ints os)), (4, .ptr 1 0), (14, I k), (12, .ref 2 0 k), (15, .ptr 3 0)], [some ⟨3, [B nw.1.op, I nw.1.ps, I nw.1.mv]⟩, some ⟨2, [I s.wd, I s.sill]⟩, some ⟨3, cGt (sgL s os a b k)⟩, some ⟨3, [B nx.1.op, I nx.1.ps, I nx.1.mv]⟩]⟩) mixed (by kernel_rfl) ?_ ?_)
            · (repeat (first | simp (maxSteps := 2000000) (disch := omega) only [go_sem, ↓reduceIte, Nat.reduceEqDiff, Nat.reduceAdd, Nat.reduceMul, Nat.reduceSub, Int.reduceToNat, Int.reduceAdd, Int.reduceSub, Int.reduceMul, Int.reduceNeg] | with_reducible refine vIf_t ?_ | with_reducible refine vIf_f ?_))
              repeat' (first | refine And.intro ?_ ?_ | (refine vsCallX_of ?_; (try (repeat (first | simp (maxSteps := 2000000) (disch := omega) only [go_sem, ↓reduceIte, Nat.reduceEqDiff, Nat.reduceAdd, Nat.reduceMul, Nat.reduceSub, Int.reduceToNat, Int.reduceAdd, Int.reduceSub, Int.reduceMul, Int.reduceNeg] | with_reducible refine vIf_t ?_ | with_reducible refine vIf_f ?_))); refine vCall_eq (hst) (by simp (disch := omega) only [go_sem, Nat.reduceAdd]) rfl (by first | exact Or.inl rfl | exact Or.inr ⟨rfl, rfl⟩ | (apply Or.inr; simp only [go_sem])) ?_; (try (repeat (first | simp (maxSteps := 2000000) (disch := omega) only [go_sem, ↓reduceIte, Nat.reduceEqDiff, Nat.reduceAdd, Nat.reduceMul, Nat.reduceSub, Int.reduceToNat, Int.reduceAdd, Int.reduceSub, Int.reduceMul, Int.reduceNeg] | with_reducible refine vIf_t ?_ | with_reducible refine vIf_f ?_)))) | (refine ⟨(), _, Frz.refl _, Or.inr ?_⟩; (repeat (first | simp (maxSteps := 2000000) (disch := omega) only [go_sem, ↓reduceIte, Nat.reduceEqDiff, Nat.reduceAdd, Nat.reduceMul, Nat.reduceSub, Int.reduceToNat, Int.reduceAdd, Int.reduceSub, Int.reduceMul, Int.reduceNeg] | with_reducible refine vIf_t ?_ | with_reducible refine vIf_f ?_))))
            intro _ _
            simp only [List.drop_succ_cons, List.drop_zero, List.drop_nil]
            (try (repeat (first | simp (maxSteps := 2000000) (disch := omega) only [go_sem, ↓reduceIte, Nat.reduceEqDiff, Nat.reduceAdd, Nat.reduceMul, Nat.reduceSub, Int.reduceToNat, Int.reduceAdd, Int.reduceSub, Int.reduceMul, Int.reduceNeg] | with_reducible refine vIf_t ?_ | with_reducible refine vIf_f ?_)))
            by_cases hc : nx.2 = 0
            · have hcb : (nx.2 != 0) = false := by simpa using hc
              (repeat (first | simp (maxSteps := 2000000) (disch := omega) only [go_sem, ↓reduceIte, Nat.reduceEqDiff, Nat.reduceAdd, Nat.reduceMul, Nat.reduceSub, Int.reduceToNat, Int.reduceAdd, Int.reduceSub, Int.reduceMul, Int.reduceNeg, hcb, hol] | with_reducible refine vIf_t ?_ | with_reducible refine vIf_f ?_))
              refine againF (k + 1) ⟨by omega, by rw [hnx]; exact hc⟩ (by omega) ?_
              rw [hnx, hos]
              (first | (refine leF_s ?_; ((repeat (first | simp (maxSteps := 2000000) (disch := omega) only [go_sem, ↓reduceIte, Nat.reduceEqDiff, Nat.reduceAdd, Nat.reduceMul, Nat.reduceSub, Int.reduceToNat, Int.reduceAdd, Int.reduceSub, Int.reduceMul, Int.reduceNeg] | with_reducible refine vIf_t ?_ | with_reducible refine vIf_f ?_)); all_goals (try simp); all_goals (try omega)); done) | (refine leF_p ?_; ((repeat (first | simp (maxSteps := 2000000) (disch := omega) only [go_sem, ↓reduceIte, Nat.reduceEqDiff, Nat.reduceAdd, Nat.reduceMul, Nat.reduceSub, Int.reduceToNat, Int.reduceAdd, Int.reduceSub, Int.reduceMul, Int.reduceNeg] | with_reducible refine vIf_t ?_ | with_reducible refine vIf_f ?_)); all_goals (try simp); all_goals (try omega)); done))
            · have hcb : (nx.2 != 0) = true := by simpa using hc
              have ec2 : rsC s os a b = nx.2 := by rw [ec, hstop hc (by omega)]
              simp only [rsQ, ec2, if_neg hc]
              (repeat (first | simp (maxSteps := 2000000) (disch := omega) only [go_sem, ↓reduceIte, Nat.reduceEqDiff, Nat.reduceAdd, Nat.reduceMul, Nat.reduceSub, Int.reduceToNat, Int.reduceAdd, Int.reduceSub, Int.reduceMul, Int.reduceNeg, hcb] | with_reducible refine vIf_t ?_ | with_reducible refine vIf_f ?_))
              (refine retK_of ?_; (repeat (first | simp (maxSteps := 2000000) (disch := omega) only [go_sem, ↓reduceIte, Nat.reduceEqDiff, Nat.reduceAdd, Nat.reduceMul, Nat.reduceSub, Int.reduceToNat, Int.reduceAdd, Int.reduceSub, Int.reduceMul, Int.reduceNeg] | with_reducible refine vIf_t ?_ | with_reducible refine vIf_f ?_)))
              first | exact trivial | (simp [hc]; done)
          · have hke : k = a.length := by omega
            subst hke
            rw [hz] at ec
            simp only [rsQ, ec, if_true, sgL_len]
            (repeat (first | simp (maxSteps := 2000000) (disch := omega) only [go_sem, ↓reduceIte, Nat.reduceEqDiff, Nat.reduceAdd, Nat.reduceMul, Nat.reduceSub, Int.reduceToNat, Int.reduceAdd, Int.reduceSub, Int.reduceMul, Int.reduceNeg] | with_reducible refine vIf_t ?_ | with_reducible refine vIf_f ?_))
            (refine retK_of ?_; (repeat (first | simp (maxSteps := 2000000) (disch := omega) only [go_sem, ↓reduceIte, Nat.reduceEqDiff, Nat.reduceAdd, Nat.reduceMul, Nat.reduceSub, Int.reduceToNat, Int.reduceAdd, Int.reduceSub, Int.reduceMul, Int.reduceNeg] | with_reducible refine vIf_t ?_ | with_reducible refine vIf_f ?_)))
            first | exact trivial | (simp; done)
theorem runSlS_ok (s : Slc) (os a b : List Int) (ho : os.length ≤ 10000000) (ha : a.length ≤ 10000000) (hb : b.length ≤ 10000000) : ACalls Try.prog 19 [.agg s.cells, .sl os.length (ints os), .sl a.length (ints a), .sl b.length (ints b)] [] (fun r o => r = .tup [.sl (rsQ s os a b).length (cGt (rsQ s os a b)), I (rsC s os a b)] ∧ o = []) :=
  GtR.fz ((runSlS_own s os a b ho ha hb).mono fun _ _ h => h.row)
/-! open hours -/
theorem allGt_snoc (q : Gt → Bool) (xs : List Gt) (k : Nat) (h : k < xs.length) (he : (xs.take k).all q = true) (hq : q (gGt xs k) = true) : (xs.take (k + 1)).all q = true := by
  rw [gGt_take_succ xs k h, List.all_append, he]; simp [hq]
theorem allGt_no (q : Gt → Bool) (xs : List Gt) (k : Nat) (h : k < xs.length) (hq : q (gGt xs k) = false) : xs.all q = false := by
  rw [List.all_eq_false]
  exact ⟨gGt xs k, gGt_mem xs k h, by simp [hq]⟩
theorem allGt_ok (f : FuncId) (caps : List V) (q : Gt → Bool) (xs : List Gt) (hf : ∀ x ∈ xs, ACalls Try.prog f (.agg x.cells :: caps) [] (fun r o => r = B (q x) ∧ o = [])) (hc : V.norefL caps = true) (hl : xs.length ≤ 10000000) :
    ACalls Try.prog 96 [.sl xs.length (cGt xs), .fn f caps] [] (fun r o => r = B (xs.all q) ∧ o = []) := by
  refine ACalls.of_vc Try.func96 rfl (by decide) 18 rfl [.tmp 4] rfl (by simp) ?_
  (repeat (first | simp (maxSteps := 2000000) (disch := omega) only [go_sem, ↓reduceIte, Nat.reduceEqDiff, Nat.reduceAdd, Nat.reduceMul, Nat.reduceSub, Int.reduceToNat, Int.reduceAdd, Int.reduceSub, Int.reduceMul, Int.reduceNeg] | with_reducible refine vIf_t ?_ | with_reducible refine vIf_f ?_))
  refine vcLoop_inv (fun k : Nat => k ≤ xs.length ∧ (xs.take k).all q = true) (fun k => ⟨18, 0, [(9, I k), (8, I xs.length), (7, .sl xs.length (cGt xs)), (1, .fn f caps)], []⟩) (fun k => xs.length - k) 0 (by simp) (by (repeat (first | simp (maxSteps := 2000000) (disch := omega) only [go_sem, ↓reduceIte, Nat.reduceEqDiff, Nat.reduceAdd, Nat.reduceMul, Nat.reduceSub, Int.reduceToNat, Int.reduceAdd, Int.reduceSub, Int.reduceMul, Int.reduceNeg, killL_noref _ _ hc] | with_reducible refine vIf_t ?_ | with_reducible refine vIf_f ?_)); all_goals (try simp)) ?_
  intro k ⟨hk, he⟩
  (repeat (first | simp (maxSteps := 2000000) (disch := omega) only [go_sem, ↓reduceIte, Nat.reduceEqDiff, Nat.reduceAdd, Nat.reduceMul, Nat.reduceSub, Int.reduceToNat, Int.reduceAdd, Int.reduceSub, Int.reduceMul, Int.reduceNeg] | with_reducible refine vIf_t ?_ | with_reducible refine vIf_f ?_))
  refine vIf_dec (fun h => ?_) (fun h => ?_)
  · have hq := hf (gGt xs k) (gGt_mem xs k (by omega))
    unfold Gt.cells at hq
    (repeat (first | simp (maxSteps := 2000000) (disch := omega) only [go_sem, ↓reduceIte, Nat.reduceEqDiff, Nat.reduceAdd, Nat.reduceMul, Nat.reduceSub, Int.reduceToNat, Int.reduceAdd, Int.reduceSub, Int.reduceMul, Int.reduceNeg] | with_reducible refine vIf_t ?_ | with_reducible refine vIf_f ?_))
    refine vCallX_of ?_
    (repeat (first | simp (maxSteps := 2000000) (disch := omega) only [go_sem, ↓reduceIte, Nat.reduceEqDiff, Nat.reduceAdd, Nat.reduceMul, Nat.reduceSub, Int.reduceToNat, Int.reduceAdd, Int.reduceSub, Int.reduceMul, Int.reduceNeg] | with_reducible refine vIf_t ?_ | with_reducible refine vIf_f ?_))
    refine vCall_eq hq (by (repeat (first | simp (maxSteps := 2000000) (disch := omega) only [go_sem, ↓reduceIte, Nat.reduceEqDiff, Nat.reduceAdd, Nat.reduceMul, Nat.reduceSub, Int.reduceToNat, Int.reduceAdd, Int.reduceSub, Int.reduceMul, Int.reduceNeg, frzL_noref _ _ hc] | with_reducible refine vIf_t ?_ | with_reducible refine vIf_f ?_))) (by (repeat (first | simp (maxSteps := 2000000) (disch := omega) only [go_sem, ↓reduceIte, Nat.reduceEqDiff, Nat.reduceAdd, Nat.reduceMul, Nat.reduceSub, Int.reduceToNat, Int.reduceAdd, Int.reduceSub, Int.reduceMul, Int.reduceNeg, hc] | with_reducible refine vIf_t ?_ | with_reducible refine vIf_f ?_))) (Or.inl (by (repeat (first | simp (maxSteps := 2000000) (disch := omega) only [go_sem, ↓reduceIte, Nat.reduceEqDiff, Nat.reduceAdd, Nat.reduceMul, Nat.reduceSub, Int.reduceToNat, Int.reduceAdd, Int.reduceSub, Int.reduceMul, Int.reduceNeg, hc] | with_reducible refine vIf_t ?_ | with_reducible refine vIf_f ?_)))) ?_
    (repeat (first | simp (maxSteps := 2000000) (disch := omega) only [go_sem, ↓reduceIte, Nat.reduceEqDiff, Nat.reduceAdd, Nat.reduceMul, Nat.reduceSub, Int.reduceToNat, Int.reduceAdd, Int.reduceSub, Int.reduceMul, Int.reduceNeg] | with_reducible refine vIf_t ?_ | with_reducible refine vIf_f ?_))
    refine vIf_not (fun h3 => ?_) (fun h3 => ?_)
    · (repeat (first | simp (maxSteps := 2000000) (disch := omega) only [go_sem, ↓reduceIte, Nat.reduceEqDiff, Nat.reduceAdd, Nat.reduceMul, Nat.reduceSub, Int.reduceToNat, Int.reduceAdd, Int.reduceSub, Int.reduceMul, Int.reduceNeg] | with_reducible refine vIf_t ?_ | with_reducible refine vIf_f ?_))
      (refine retK_of ?_; (repeat (first | simp (maxSteps := 2000000) (disch := omega) only [go_sem, ↓reduceIte, Nat.reduceEqDiff, Nat.reduceAdd, Nat.reduceMul, Nat.reduceSub, Int.reduceToNat, Int.reduceAdd, Int.reduceSub, Int.reduceMul, Int.reduceNeg] | with_reducible refine vIf_t ?_ | with_reducible refine vIf_f ?_)))
      rw [allGt_no q xs k (by omega) h3]
    · (repeat (first | simp (maxSteps := 2000000) (disch := omega) only [go_sem, ↓reduceIte, Nat.reduceEqDiff, Nat.reduceAdd, Nat.reduceMul, Nat.reduceSub, Int.reduceToNat, Int.reduceAdd, Int.reduceSub, Int.reduceMul, Int.reduceNeg] | with_reducible refine vIf_t ?_ | with_reducible refine vIf_f ?_))
      refine again (k + 1) ⟨by omega, allGt_snoc q xs k (by omega) he h3⟩ (by omega) ?_
      (repeat (first | simp (maxSteps := 2000000) (disch := omega) only [go_sem, ↓reduceIte, Nat.reduceEqDiff, Nat.reduceAdd, Nat.reduceMul, Nat.reduceSub, Int.reduceToNat, Int.reduceAdd, Int.reduceSub, Int.reduceMul, Int.reduceNeg, killL_noref _ _ hc] | with_reducible refine vIf_t ?_ | with_reducible refine vIf_f ?_))
  · (repeat (first | simp (maxSteps := 2000000) (disch := omega) only [go_sem, ↓reduceIte, Nat.reduceEqDiff, Nat.reduceAdd, Nat.reduceMul, Nat.reduceSub, Int.reduceToNat, Int.reduceAdd, Int.reduceSub, Int.reduceMul, Int.reduceNeg] | with_reducible refine vIf_t ?_ | with_reducible refine vIf_f ?_))
    (refine retK_of ?_; (repeat (first | simp (maxSteps := 2000000) (disch := omega) only [go_sem, ↓reduceIte, Nat.reduceEqDiff, Nat.reduceAdd, Nat.reduceMul, Nat.reduceSub, Int.reduceToNat, Int.reduceAdd, Int.reduceSub, Int.reduceMul, Int.reduceNeg] | with_reducible refine vIf_t ?_ | with_reducible refine vIf_f ?_)))
    rw [List.take_of_length_le (by omega)] at he
    simp [he]
theorem szGt_ok (xs : List V) (n : Nat) : ACalls Try.prog 98 [.sl n xs] [] (fun r o => r = I n ∧ o = []) := by
  refine ACalls.of_vc Try.func98 rfl (by decide) 5 rfl [.tmp 2] rfl (by simp) ?_
  (repeat (first | simp (maxSteps := 2000000) (disch := omega) only [go_sem, ↓reduceIte, Nat.reduceEqDiff, Nat.reduceAdd, Nat.reduceMul, Nat.reduceSub, Int.reduceToNat, Int.reduceAdd, Int.reduceSub, Int.reduceMul, Int.reduceNeg] | with_reducible refine vIf_t ?_ | with_reducible refine vIf_f ?_))
  (refine retK_of ?_; (repeat (first | simp (maxSteps := 2000000) (disch := omega) only [go_sem, ↓reduceIte, Nat.reduceEqDiff, Nat.reduceAdd, Nat.reduceMul, Nat.reduceSub, Int.reduceToNat, Int.reduceAdd, Int.reduceSub, Int.reduceMul, Int.reduceNeg] | with_reducible refine vIf_t ?_ | with_reducible refine vIf_f ?_)))
def goB (gs : List Gt) (k : Nat) : Bool := decide (∀ j, j < k → 0 < j → (gGt gs (j - 1)).ps ≤ (gGt gs j).ps ∧ (gGt gs (j - 1)).mv ≤ (gGt gs j).mv)
def okGs (gs : List Gt) : Bool := goB gs gs.length && (decide (gs.length ≤ 200) && gs.all okG9)
theorem goB_succ (gs : List Gt) (k : Nat) : goB gs (k + 1) = (goB gs k && decide (0 < k → (gGt gs (k - 1)).ps ≤ (gGt gs k).ps ∧ (gGt gs (k - 1)).mv ≤ (gGt gs k).mv)) := by
  unfold goB
  rw [← Bool.decide_and]
  apply decide_eq_decide.2
  constructor
  · intro h; exact ⟨fun j h1 h0 => h j (by omega) h0, fun h0 => h k (by omega) h0⟩
  · rintro ⟨h1, h2⟩ j hj h0
    by_cases e : j = k
    · subst e; exact h2 h0
    · exact h1 j (by omega) h0
theorem goB_no {gs : List Gt} {k : Nat} (hk : k < gs.length) (h0 : 0 < k) (h : ¬ ((gGt gs (k - 1)).ps ≤ (gGt gs k).ps ∧ (gGt gs (k - 1)).mv ≤ (gGt gs k).mv)) : okGs gs = false := by
  unfold okGs
  rw [Bool.and_eq_false_iff]
  exact .inl (decide_eq_false fun hh => h (hh k hk h0))
def ohC (gs : List Gt) : Int := if okGs gs = true then 0 else 1
def ohL (gs : List Gt) : List Int := if okGs gs = true then ixs gs.length (fun i => (gGt gs i).op) else []
theorem opn1_ok (gs : List Gt) (i : Nat) (hi : i < gs.length) : ACalls Try.prog 99 [I i, .ip [.sl gs.length (cGt gs)] 0] [] (fun r o => r = B (gGt gs i).op ∧ o = []) := by
  refine ACalls.of_vc Try.func99 rfl (by decide) 9 rfl [.tmp 3] rfl (by simp) ?_
  (repeat (first | simp (maxSteps := 2000000) (disch := omega) only [go_sem, ↓reduceIte, Nat.reduceEqDiff, Nat.reduceAdd, Nat.reduceMul, Nat.reduceSub, Int.reduceToNat, Int.reduceAdd, Int.reduceSub, Int.reduceMul, Int.reduceNeg] | with_reducible refine vIf_t ?_ | with_reducible refine vIf_f ?_))
  (refine retK_of ?_; (repeat (first | simp (maxSteps := 2000000) (disch := omega) only [go_sem, ↓reduceIte, Nat.reduceEqDiff, Nat.reduceAdd, Nat.reduceMul, Nat.reduceSub, Int.reduceToNat, Int.reduceAdd, Int.reduceSub, Int.reduceMul, Int.reduceNeg] | with_reducible refine vIf_t ?_ | with_reducible refine vIf_f ?_)))
set_option maxHeartbeats 4000000 in
theorem openH_ok (gs : List Gt) (hl : gs.length ≤ 10000000) : ACalls Try.prog 27 [.sl gs.length (cGt gs)] [] (fun r o => r = .tup [.sl (ohL gs).length (ints (ohL gs)), I (ohC gs)] ∧ o = []) := by
  refine RowR.fz (ACalls.mono (Q := fun r o => r = .tup [.ref 0 0 (ohL gs).length, I (ohC gs)] ∧ o = [oI (ohL gs)]) ?_ fun r o h => .inl h)
  refine ACalls.of_vc Try.func27 rfl (by decide) 51 rfl [.tmp 2, .tmp 3] rfl (by simp) ?_
  have hall := allGt_ok 97 [] okG9 gs (fun x _ => validGt_ok x) rfl hl
  (repeat (first | simp (maxSteps := 2000000) (disch := omega) only [go_sem, ↓reduceIte, Nat.reduceEqDiff, Nat.reduceAdd, Nat.reduceMul, Nat.reduceSub, Int.reduceToNat, Int.reduceAdd, Int.reduceSub, Int.reduceMul, Int.reduceNeg] | with_reducible refine vIf_t ?_ | with_reducible refine vIf_f ?_))
  by_cases h2 : gs.length ≤ 200
  case neg =>
    have h2b : decide (200 < (gs.length : Int)) = true := decide_eq_true (by omega)
    have ec : okGs gs = false := by simp [okGs, h2]
    simp only [ohL, ohC, ec]
    (repeat (first | simp (maxSteps := 2000000) (disch := omega) only [go_sem, ↓reduceIte, Nat.reduceEqDiff, Nat.reduceAdd, Nat.reduceMul, Nat.reduceSub, Int.reduceToNat, Int.reduceAdd, Int.reduceSub, Int.reduceMul, Int.reduceNeg, h2b] | with_reducible refine vIf_t ?_ | with_reducible refine vIf_f ?_))
    (refine retK_of ?_; (repeat (first | simp (maxSteps := 2000000) (disch := omega) only [go_sem, ↓reduceIte, Nat.reduceEqDiff, Nat.reduceAdd, Nat.reduceMul, Nat.reduceSub, Int.reduceToNat, Int.reduceAdd, Int.reduceSub, Int.reduceMul, Int.reduceNeg] | with_reducible refine vIf_t ?_ | with_reducible refine vIf_f ?_)))
    try simp [ints]
  have h2b : decide (200 < (gs.length : Int)) = false := decide_eq_false (by omega)
  (repeat (first | simp (maxSteps := 2000000) (disch := omega) only [go_sem, ↓reduceIte, Nat.reduceEqDiff, Nat.reduceAdd, Nat.reduceMul, Nat.reduceSub, Int.reduceToNat, Int.reduceAdd, Int.reduceSub, Int.reduceMul, Int.reduceNeg, h2b] | with_reducible refine vIf_t ?_ | with_reducible refine vIf_f ?_))
  (refine vCallX_of ?_; (repeat (first | simp (maxSteps := 2000000) (disch := omega) only [go_sem, ↓reduceIte, Nat.reduceEqDiff, Nat.reduceAdd, Nat.reduceMul, Nat.reduceSub, Int.reduceToNat, Int.reduceAdd, Int.reduceSub, Int.reduceMul, Int.reduceNeg] | with_reducible refine vIf_t ?_ | with_reducible refine vIf_f ?_)); refine vCall_eq (hall) (by simp (disch := omega) only [go_sem, Nat.reduceAdd]) rfl (by first | exact Or.inl rfl | exact Or.inr ⟨rfl, rfl⟩ | (apply Or.inr; simp only [go_sem])) ?_; (repeat (first | simp (maxSteps := 2000000) (disch := omega) only [go_sem, ↓reduceIte, Nat.reduceEqDiff, Nat.reduceAdd, Nat.reduceMul, Nat.reduceSub, Int.reduceToNat, Int.reduceAdd, Int.reduceSub, Int.reduceMul, Int.reduceNeg] | with_reducible refine vIf_t ?_ | with_reducible refine vIf_f ?_)))
  cases h3 : gs.all okG9 with
  | false =>
    have ec : okGs gs = false := by simp [okGs, h3]
    simp only [ohL, ohC, ec]
    (repeat (first | simp (maxSteps := 2000000) (disch := omega) only [go_sem, ↓reduceIte, Nat.reduceEqDiff, Nat.reduceAdd, Nat.reduceMul, Nat.reduceSub, Int.reduceToNat, Int.reduceAdd, Int.reduceSub, Int.reduceMul, Int.reduceNeg, h3] | with_reducible refine vIf_t ?_ | with_reducible refine vIf_f ?_))
    (refine retK_of ?_; (repeat (first | simp (maxSteps := 2000000) (disch := omega) only [go_sem, ↓reduceIte, Nat.reduceEqDiff, Nat.reduceAdd, Nat.reduceMul, Nat.reduceSub, Int.reduceToNat, Int.reduceAdd, Int.reduceSub, Int.reduceMul, Int.reduceNeg] | with_reducible refine vIf_t ?_ | with_reducible refine vIf_f ?_)))
    try simp [ints]
  | true =>
    (repeat (first | simp (maxSteps := 2000000) (disch := omega) only [go_sem, ↓reduceIte, Nat.reduceEqDiff, Nat.reduceAdd, Nat.reduceMul, Nat.reduceSub, Int.reduceToNat, Int.reduceAdd, Int.reduceSub, Int.reduceMul, Int.reduceNeg, h3] | with_reducible refine vIf_t ?_ | with_reducible refine vIf_f ?_))
    refine vcLoop_invF (fun k : Nat => 1 ≤ k ∧ (k ≤ gs.length ∨ k = 1) ∧ goB gs k = true) (fun k => ⟨51, 0, [(4, I k), (1, .ptr 0 0)], [some ⟨1, [.sl gs.length (cGt gs)]⟩]⟩) (fun k => gs.length - k) 1 ⟨by omega, by omega, decide_eq_true (by omega)⟩ (by (first | (refine leF_s ?_; ((repeat (first | simp (maxSteps := 2000000) (disch := omega) only [go_sem, ↓reduceIte, Nat.reduceEqDiff, Nat.reduceAdd, Nat.reduceMul, Nat.reduceSub, Int.reduceToNat, Int.reduceAdd, Int.reduceSub, Int.reduceMul, Int.reduceNeg] | with_reducible refine vIf_t ?_ | with_reducible refine vIf_f ?_)); all_goals (try simp); all_goals (try omega)); done) | (refine leF_p ?_; ((repeat (first | simp (maxSteps := 2000000) (disch := omega) only [go_sem, ↓reduceIte, Nat.reduceEqDiff, Nat.reduceAdd, Nat.reduceMul, Nat.reduceSub, Int.reduceToNat, Int.reduceAdd, Int.reduceSub, Int.reduceMul, Int.reduceNeg] | with_reducible refine vIf_t ?_ | with_reducible refine vIf_f ?_)); all_goals (try simp); all_goals (try omega)); done))) ?_
    intro k ⟨hk0, hk, he⟩
    (repeat (first | simp (maxSteps := 2000000) (disch := omega) only [go_sem, ↓reduceIte, Nat.reduceEqDiff, Nat.reduceAdd, Nat.reduceMul, Nat.reduceSub, Int.reduceToNat, Int.reduceAdd, Int.reduceSub, Int.reduceMul, Int.reduceNeg] | with_reducible refine vIf_t ?_ | with_reducible refine vIf_f ?_))
    refine vIf_dec (fun h => ?_) (fun h => ?_)
    · have hk1 : ((k : Int) - 1).toNat = k - 1 := by omega
      have hs := goB_succ gs k
      (repeat (first | simp (maxSteps := 2000000) (disch := omega) only [go_sem, ↓reduceIte, Nat.reduceEqDiff, Nat.reduceAdd, Nat.reduceMul, Nat.reduceSub, Int.reduceToNat, Int.reduceAdd, Int.reduceSub, Int.reduceMul, Int.reduceNeg] | with_reducible refine vIf_t ?_ | with_reducible refine vIf_f ?_))
      (refine vDraw_sch 24 [(1, false), (6, false), (7, false), (0, false), (2, false), (3, false), (4, false), (5, true), (8, false), (9, false), (10, true), (11, false), (12, false), (13, false), (14, false), (15, false), (16, false), (17, false), (18, false), (19, false), (20, false), (21, false), (22, false), (23, false)] mixed (by kernel_rfl) ?_; simp only [List.cons_append, List.nil_append, List.map_cons, List.map_nil, nthO_zero, nthO_succ, List.drop_succ_cons, List.drop_zero, List.drop_nil]; (repeat (first | simp (maxSteps := 2000000) (disch := omega) only [go_sem, ↓reduceIte, Nat.reduceEqDiff, Nat.reduceAdd, Nat.reduceMul, Nat.reduceSub, Int.reduceToNat, Int.reduceAdd, Int.reduceSub, Int.reduceMul, Int.reduceNeg] | with_reducible refine vIf_t ?_ | with_reducible refine vIf_f ?_)))
      (try (repeat (first | simp (maxSteps := 2000000) (disch := omega) only [go_sem, ↓reduceIte, Nat.reduceEqDiff, Nat.reduceAdd, Nat.reduceMul, Nat.reduceSub, Int.reduceToNat, Int.reduceAdd, Int.reduceSub, Int.reduceMul, Int.reduceNeg, hk1] | with_reducible refine vIf_t ?_ | with_reducible refine vIf_f ?_)))
      by_cases c1 : (gGt gs (k - 1)).ps ≤ (gGt gs k).ps
      · have d1 : decide ((gGt gs k).ps < (gGt gs (k - 1)).ps) = false := decide_eq_false (by omega)
        by_cases c2 : (gGt gs (k - 1)).mv ≤ (gGt gs k).mv
        · have d2 : decide ((gGt gs k).mv < (gGt gs (k - 1)).mv) = false := decide_eq_false (by omega)
          (try (repeat (first | simp (maxSteps := 2000000) (disch := omega) only [go_sem, ↓reduceIte, Nat.reduceEqDiff, Nat.reduceAdd, Nat.reduceMul, Nat.reduceSub, Int.reduceToNat, Int.reduceAdd, Int.reduceSub, Int.reduceMul, Int.reduceNeg, hk1, d1, d2] | with_reducible refine vIf_t ?_ | with_reducible refine vIf_f ?_)))
          refine againF (k + 1) ⟨by omega, by omega, ?_⟩ (by omega) (by (first | (refine leF_s ?_; ((repeat (first | simp (maxSteps := 2000000) (disch := omega) only [go_sem, ↓reduceIte, Nat.reduceEqDiff, Nat.reduceAdd, Nat.reduceMul, Nat.reduceSub, Int.reduceToNat, Int.reduceAdd, Int.reduceSub, Int.reduceMul, Int.reduceNeg] | with_reducible refine vIf_t ?_ | with_reducible refine vIf_f ?_)); all_goals (try simp); all_goals (try omega)); done) | (refine leF_p ?_; ((repeat (first | simp (maxSteps := 2000000) (disch := omega) only [go_sem, ↓reduceIte, Nat.reduceEqDiff, Nat.reduceAdd, Nat.reduceMul, Nat.reduceSub, Int.reduceToNat, Int.reduceAdd, Int.reduceSub, Int.reduceMul, Int.reduceNeg] | with_reducible refine vIf_t ?_ | with_reducible refine vIf_f ?_)); all_goals (try simp); all_goals (try omega)); done)))
          rw [hs, he, Bool.true_and]
          exact decide_eq_true fun _ => ⟨c1, c2⟩
        · have d2 : decide ((gGt gs k).mv < (gGt gs (k - 1)).mv) = true := decide_eq_true (by omega)
          have ec := goB_no (gs := gs) (k := k) (by omega) (by omega) (fun h => c2 h.2)
          simp only [ohL, ohC, ec]
          (try (repeat (first | simp (maxSteps := 2000000) (disch := omega) only [go_sem, ↓reduceIte, Nat.reduceEqDiff, Nat.reduceAdd, Nat.reduceMul, Nat.reduceSub, Int.reduceToNat, Int.reduceAdd, Int.reduceSub, Int.reduceMul, Int.reduceNeg, hk1, d1, d2] | with_reducible refine vIf_t ?_ | with_reducible refine vIf_f ?_)))
          (refine retK_of ?_; (repeat (first | simp (maxSteps := 2000000) (disch := omega) only [go_sem, ↓reduceIte, Nat.reduceEqDiff, Nat.reduceAdd, Nat.reduceMul, Nat.reduceSub, Int.reduceToNat, Int.reduceAdd, Int.reduceSub, Int.reduceMul, Int.reduceNeg] | with_reducible refine vIf_t ?_ | with_reducible refine vIf_f ?_)))
          try simp [ints]
      · have d1 : decide ((gGt gs k).ps < (gGt gs (k - 1)).ps) = true := decide_eq_true (by omega)
        have ec := goB_no (gs := gs) (k := k) (by omega) (by omega) (fun h => c1 h.1)
        simp only [ohL, ohC, ec]
        (try (repeat (first | simp (maxSteps := 2000000) (disch := omega) only [go_sem, ↓reduceIte, Nat.reduceEqDiff, Nat.reduceAdd, Nat.reduceMul, Nat.reduceSub, Int.reduceToNat, Int.reduceAdd, Int.reduceSub, Int.reduceMul, Int.reduceNeg, hk1, d1] | with_reducible refine vIf_t ?_ | with_reducible refine vIf_f ?_)))
        (refine retK_of ?_; (repeat (first | simp (maxSteps := 2000000) (disch := omega) only [go_sem, ↓reduceIte, Nat.reduceEqDiff, Nat.reduceAdd, Nat.reduceMul, Nat.reduceSub, Int.reduceToNat, Int.reduceAdd, Int.reduceSub, Int.reduceMul, Int.reduceNeg] | with_reducible refine vIf_t ?_ | with_reducible refine vIf_f ?_)))
        try simp [ints]
    · have hr : goB gs gs.length = true := decide_eq_true fun j h1 h0 => of_decide_eq_true he j (by omega) h0
      have ec : okGs gs = true := by simp [okGs, hr, h2, h3]
      have hix := ixw_ok gs.length 99 [.ip [.sl gs.length (cGt gs)] 0] (fun i => (gGt gs i).op) (fun i hi => opn1_ok gs i hi) rfl hl
      simp only [ohL, ohC, ec, if_true]
      (repeat (first | simp (maxSteps := 2000000) (disch := omega) only [go_sem, ↓reduceIte, Nat.reduceEqDiff, Nat.reduceAdd, Nat.reduceMul, Nat.reduceSub, Int.reduceToNat, Int.reduceAdd, Int.reduceSub, Int.reduceMul, Int.reduceNeg] | with_reducible refine vIf_t ?_ | with_reducible refine vIf_f ?_))
      (refine vCallX_of ?_; (repeat (first | simp (maxSteps := 2000000) (disch := omega) only [go_sem, ↓reduceIte, Nat.reduceEqDiff, Nat.reduceAdd, Nat.reduceMul, Nat.reduceSub, Int.reduceToNat, Int.reduceAdd, Int.reduceSub, Int.reduceMul, Int.reduceNeg] | with_reducible refine vIf_t ?_ | with_reducible refine vIf_f ?_)); refine vCall_eq (szGt_ok (cGt gs) gs.length) (by simp (disch := omega) only [go_sem, Nat.reduceAdd]) rfl (by first | exact Or.inl rfl | exact Or.inr ⟨rfl, rfl⟩ | (apply Or.inr; simp only [go_sem])) ?_; (repeat (first | simp (maxSteps := 2000000) (disch := omega) only [go_sem, ↓reduceIte, Nat.reduceEqDiff, Nat.reduceAdd, Nat.reduceMul, Nat.reduceSub, Int.reduceToNat, Int.reduceAdd, Int.reduceSub, Int.reduceMul, Int.reduceNeg] | with_reducible refine vIf_t ?_ | with_reducible refine vIf_f ?_)))
      (refine vCallX_of ?_; (repeat (first | simp (maxSteps := 2000000) (disch := omega) only [go_sem, ↓reduceIte, Nat.reduceEqDiff, Nat.reduceAdd, Nat.reduceMul, Nat.reduceSub, Int.reduceToNat, Int.reduceAdd, Int.reduceSub, Int.reduceMul, Int.reduceNeg] | with_reducible refine vIf_t ?_ | with_reducible refine vIf_f ?_)); refine vCall_eq (hix) (by simp (disch := omega) only [go_sem, Nat.reduceAdd]) rfl (by first | exact Or.inl rfl | exact Or.inr ⟨rfl, rfl⟩ | (apply Or.inr; simp only [go_sem])) ?_; (repeat (first | simp (maxSteps := 2000000) (disch := omega) only [go_sem, ↓reduceIte, Nat.reduceEqDiff, Nat.reduceAdd, Nat.reduceMul, Nat.reduceSub, Int.reduceToNat, Int.reduceAdd, Int.reduceSub, Int.reduceMul, Int.reduceNeg] | with_reducible refine vIf_t ?_ | with_reducible refine vIf_f ?_)))
      (refine retK_of ?_; (repeat (first | simp (maxSteps := 2000000) (disch := omega) only [go_sem, ↓reduceIte, Nat.reduceEqDiff, Nat.reduceAdd, Nat.reduceMul, Nat.reduceSub, Int.reduceToNat, Int.reduceAdd, Int.reduceSub, Int.reduceMul, Int.reduceNeg] | with_reducible refine vIf_t ?_ | with_reducible refine vIf_f ?_)))
set_option maxHeartbeats 4000000 in
theorem l09Gates_ok (gs : List Gt) (hl : gs.length ≤ 10000000) : ACalls Try.prog 100 [.sl gs.length (cGt gs)] [] (fun r o => r = B (okGs gs) ∧ o = []) := by
  refine ACalls.of_vc Try.func100 rfl (by decide) 51 rfl [.tmp 2] rfl (by simp) ?_
  (repeat (first | simp (maxSteps := 2000000) (disch := omega) only [go_sem, ↓reduceIte, Nat.reduceEqDiff, Nat.reduceAdd, Nat.reduceMul, Nat.reduceSub, Int.reduceToNat, Int.reduceAdd, Int.reduceSub, Int.reduceMul, Int.reduceNeg] | with_reducible refine vIf_t ?_ | with_reducible refine vIf_f ?_))
  refine vcLoop_invF (fun k : Nat => k ≤ gs.length ∧ goB gs k = true ∧ (gs.take k).all okG9 = true) (fun k => ⟨51, 0, [(3, I k), (0, .sl gs.length (cGt gs))], []⟩) (fun k => gs.length - k) 0 ⟨by omega, decide_eq_true (by omega), rfl⟩ (by (first | (refine leF_s ?_; ((repeat (first | simp (maxSteps := 2000000) (disch := omega) only [go_sem, ↓reduceIte, Nat.reduceEqDiff, Nat.reduceAdd, Nat.reduceMul, Nat.reduceSub, Int.reduceToNat, Int.reduceAdd, Int.reduceSub, Int.reduceMul, Int.reduceNeg] | with_reducible refine vIf_t ?_ | with_reducible refine vIf_f ?_)); all_goals (try simp); all_goals (try omega)); done) | (refine leF_p ?_; ((repeat (first | simp (maxSteps := 2000000) (disch := omega) only [go_sem, ↓reduceIte, Nat.reduceEqDiff, Nat.reduceAdd, Nat.reduceMul, Nat.reduceSub, Int.reduceToNat, Int.reduceAdd, Int.reduceSub, Int.reduceMul, Int.reduceNeg] | with_reducible refine vIf_t ?_ | with_reducible refine vIf_f ?_)); all_goals (try simp); all_goals (try omega)); done))) ?_
  intro k ⟨hk, he, ha⟩
  (repeat (first | simp (maxSteps := 2000000) (disch := omega) only [go_sem, ↓reduceIte, Nat.reduceEqDiff, Nat.reduceAdd, Nat.reduceMul, Nat.reduceSub, Int.reduceToNat, Int.reduceAdd, Int.reduceSub, Int.reduceMul, Int.reduceNeg] | with_reducible refine vIf_t ?_ | with_reducible refine vIf_f ?_))
  refine vIf_dec (fun h => ?_) (fun h => ?_)
  · have hkl : k < gs.length := by omega
    have hk1 : ((k : Int) - 1).toNat = k - 1 := by omega
    have hs := goB_succ gs k
    have hone := l09Gate_ok (gGt gs k)
    unfold Gt.cells at hone
    (repeat (first | simp (maxSteps := 2000000) (disch := omega) only [go_sem, ↓reduceIte, Nat.reduceEqDiff, Nat.reduceAdd, Nat.reduceMul, Nat.reduceSub, Int.reduceToNat, Int.reduceAdd, Int.reduceSub, Int.reduceMul, Int.reduceNeg] | with_reducible refine vIf_t ?_ | with_reducible refine vIf_f ?_))
    (refine vDraw_sch 34 ([(0, false), (1, false), (2, false), (3, true), (4, false), (5, false), (6, false), (7, false), (8, false), (9, false), (10, false), (11, false), (12, false), (13, false), (14, false), (15, false), (16, false), (17, false), (18, false), (19, false)] ++ [(20, false), (21, false), (22, false), (23, false), (24, false), (25, false), (26, false), (27, false), (28, false), (29, false), (30, false), (31, false), (32, false), (33, false)]) mixed (by kernel_rfl) ?_; simp only [List.cons_append, List.nil_append, List.map_cons, List.map_nil, nthO_zero, nthO_succ, List.drop_succ_cons, List.drop_zero, List.drop_nil]; (repeat (first | simp (maxSteps := 2000000) (disch := omega) only [go_sem, ↓reduceIte, Nat.reduceEqDiff, Nat.reduceAdd, Nat.reduceMul, Nat.reduceSub, Int.reduceToNat, Int.reduceAdd, Int.reduceSub, Int.reduceMul, Int.reduceNeg] | with_reducible refine vIf_t ?_ | with_reducible refine vIf_f ?_)))
    (refine vsCallX_of ?_; (try (repeat (first | simp (maxSteps := 2000000) (disch := omega) only [go_sem, ↓reduceIte, Nat.reduceEqDiff, Nat.reduceAdd, Nat.reduceMul, Nat.reduceSub, Int.reduceToNat, Int.reduceAdd, Int.reduceSub, Int.reduceMul, Int.reduceNeg] | with_reducible refine vIf_t ?_ | with_reducible refine vIf_f ?_))); refine vCall_eq (hone) (by simp (disch := omega) only [go_sem, Nat.reduceAdd]) rfl (by first | exact Or.inl rfl | exact Or.inr ⟨rfl, rfl⟩ | (apply Or.inr; simp only [go_sem])) ?_; (try (repeat (first | simp (maxSteps := 2000000) (disch := omega) only [go_sem, ↓reduceIte, Nat.reduceEqDiff, Nat.reduceAdd, Nat.reduceMul, Nat.reduceSub, Int.reduceToNat, Int.reduceAdd, Int.reduceSub, Int.reduceMul, Int.reduceNeg] | with_reducible refine vIf_t ?_ | with_reducible refine vIf_f ?_))))
    cases h1 : okG9 (gGt gs k) with
    | false =>
      (try (repeat (first | simp (maxSteps := 2000000) (disch := omega) only [go_sem, ↓reduceIte, Nat.reduceEqDiff, Nat.reduceAdd, Nat.reduceMul, Nat.reduceSub, Int.reduceToNat, Int.reduceAdd, Int.reduceSub, Int.reduceMul, Int.reduceNeg, h1] | with_reducible refine vIf_t ?_ | with_reducible refine vIf_f ?_)))
      (refine retK_of ?_; (repeat (first | simp (maxSteps := 2000000) (disch := omega) only [go_sem, ↓reduceIte, Nat.reduceEqDiff, Nat.reduceAdd, Nat.reduceMul, Nat.reduceSub, Int.reduceToNat, Int.reduceAdd, Int.reduceSub, Int.reduceMul, Int.reduceNeg] | with_reducible refine vIf_t ?_ | with_reducible refine vIf_f ?_)))
      rw [show okGs gs = false from ?_]
      simp only [okGs, allGt_no okG9 gs k (by omega) h1, Bool.and_false]
    | true =>
      have ha2 := allGt_snoc okG9 gs k (by omega) ha h1
      (try (repeat (first | simp (maxSteps := 2000000) (disch := omega) only [go_sem, ↓reduceIte, Nat.reduceEqDiff, Nat.reduceAdd, Nat.reduceMul, Nat.reduceSub, Int.reduceToNat, Int.reduceAdd, Int.reduceSub, Int.reduceMul, Int.reduceNeg, h1] | with_reducible refine vIf_t ?_ | with_reducible refine vIf_f ?_)))
      by_cases h0 : k = 0
      · have h0b : decide (0 < (k : Int)) = false := decide_eq_false (by omega)
        (try (repeat (first | simp (maxSteps := 2000000) (disch := omega) only [go_sem, ↓reduceIte, Nat.reduceEqDiff, Nat.reduceAdd, Nat.reduceMul, Nat.reduceSub, Int.reduceToNat, Int.reduceAdd, Int.reduceSub, Int.reduceMul, Int.reduceNeg, h0b] | with_reducible refine vIf_t ?_ | with_reducible refine vIf_f ?_)))
        refine againF (k + 1) ⟨by omega, ?_, ha2⟩ (by omega) (by (first | (refine leF_s ?_; ((repeat (first | simp (maxSteps := 2000000) (disch := omega) only [go_sem, ↓reduceIte, Nat.reduceEqDiff, Nat.reduceAdd, Nat.reduceMul, Nat.reduceSub, Int.reduceToNat, Int.reduceAdd, Int.reduceSub, Int.reduceMul, Int.reduceNeg] | with_reducible refine vIf_t ?_ | with_reducible refine vIf_f ?_)); all_goals (try simp); all_goals (try omega)); done) | (refine leF_p ?_; ((repeat (first | simp (maxSteps := 2000000) (disch := omega) only [go_sem, ↓reduceIte, Nat.reduceEqDiff, Nat.reduceAdd, Nat.reduceMul, Nat.reduceSub, Int.reduceToNat, Int.reduceAdd, Int.reduceSub, Int.reduceMul, Int.reduceNeg] | with_reducible refine vIf_t ?_ | with_reducible refine vIf_f ?_)); all_goals (try simp); all_goals (try omega)); done)))
        rw [hs, he, Bool.true_and]; exact decide_eq_true fun h => by omega
      · have h0b : decide (0 < (k : Int)) = true := decide_eq_true (by omega)
        by_cases c1 : (gGt gs (k - 1)).ps ≤ (gGt gs k).ps
        · have d1 : decide ((gGt gs k).ps < (gGt gs (k - 1)).ps) = false := decide_eq_false (by omega)
          by_cases c2 : (gGt gs (k - 1)).mv ≤ (gGt gs k).mv
          · have d2 : decide ((gGt gs k).mv < (gGt gs (k - 1)).mv) = false := decide_eq_false (by omega)
            (try (repeat (first | simp (maxSteps := 2000000) (disch := omega) only [go_sem, ↓reduceIte, Nat.reduceEqDiff, Nat.reduceAdd, Nat.reduceMul, Nat.reduceSub, Int.reduceToNat, Int.reduceAdd, Int.reduceSub, Int.reduceMul, Int.reduceNeg, h0b, hk1, d1, d2] | with_reducible refine vIf_t ?_ | with_reducible refine vIf_f ?_)))
            refine againF (k + 1) ⟨by omega, ?_, ha2⟩ (by omega) (by (first | (refine leF_s ?_; ((repeat (first | simp (maxSteps := 2000000) (disch := omega) only [go_sem, ↓reduceIte, Nat.reduceEqDiff, Nat.reduceAdd, Nat.reduceMul, Nat.reduceSub, Int.reduceToNat, Int.reduceAdd, Int.reduceSub, Int.reduceMul, Int.reduceNeg] | with_reducible refine vIf_t ?_ | with_reducible refine vIf_f ?_)); all_goals (try simp); all_goals (try omega)); done) | (refine leF_p ?_; ((repeat (first | simp (maxSteps := 2000000) (disch := omega) only [go_sem, ↓reduceIte, Nat.reduceEqDiff, Nat.reduceAdd, Nat.reduceMul, Nat.reduceSub, Int.reduceToNat, Int.reduceAdd, Int.reduceSub, Int.reduceMul, Int.reduceNeg] | with_reducible refine vIf_t ?_ | with_reducible refine vIf_f ?_)); all_goals (try simp); all_goals (try omega)); done)))
            rw [hs, he, Bool.true_and]
            exact decide_eq_true fun _ => ⟨c1, c2⟩
          · have d2 : decide ((gGt gs k).mv < (gGt gs (k - 1)).mv) = true := decide_eq_true (by omega)
            have ec := goB_no (gs := gs) (k := k) (by omega) (by omega) (fun h => c2 h.2)
            (try (repeat (first | simp (maxSteps := 2000000) (disch := omega) only [go_sem, ↓reduceIte, Nat.reduceEqDiff, Nat.reduceAdd, Nat.reduceMul, Nat.reduceSub, Int.reduceToNat, Int.reduceAdd, Int.reduceSub, Int.reduceMul, Int.reduceNeg, h0b, hk1, d1, d2] | with_reducible refine vIf_t ?_ | with_reducible refine vIf_f ?_)))
            (refine retK_of ?_; (repeat (first | simp (maxSteps := 2000000) (disch := omega) only [go_sem, ↓reduceIte, Nat.reduceEqDiff, Nat.reduceAdd, Nat.reduceMul, Nat.reduceSub, Int.reduceToNat, Int.reduceAdd, Int.reduceSub, Int.reduceMul, Int.reduceNeg] | with_reducible refine vIf_t ?_ | with_reducible refine vIf_f ?_)))
            rw [ec]
        · have d1 : decide ((gGt gs k).ps < (gGt gs (k - 1)).ps) = true := decide_eq_true (by omega)
          have ec := goB_no (gs := gs) (k := k) (by omega) (by omega) (fun h => c1 h.1)
          (try (repeat (first | simp (maxSteps := 2000000) (disch := omega) only [go_sem, ↓reduceIte, Nat.reduceEqDiff, Nat.reduceAdd, Nat.reduceMul, Nat.reduceSub, Int.reduceToNat, Int.reduceAdd, Int.reduceSub, Int.reduceMul, Int.reduceNeg, h0b, hk1, d1] | with_reducible refine vIf_t ?_ | with_reducible refine vIf_f ?_)))
          (refine retK_of ?_; (repeat (first | simp (maxSteps := 2000000) (disch := omega) only [go_sem, ↓reduceIte, Nat.reduceEqDiff, Nat.reduceAdd, Nat.reduceMul, Nat.reduceSub, Int.reduceToNat, Int.reduceAdd, Int.reduceSub, Int.reduceMul, Int.reduceNeg] | with_reducible refine vIf_t ?_ | with_reducible refine vIf_f ?_)))
          rw [ec]
  · rw [show k = gs.length by omega] at he ha
    rw [List.take_length] at ha
    (repeat (first | simp (maxSteps := 2000000) (disch := omega) only [go_sem, ↓reduceIte, Nat.reduceEqDiff, Nat.reduceAdd, Nat.reduceMul, Nat.reduceSub, Int.reduceToNat, Int.reduceAdd, Int.reduceSub, Int.reduceMul, Int.reduceNeg] | with_reducible refine vIf_t ?_ | with_reducible refine vIf_f ?_))
    (refine retK_of ?_; (repeat (first | simp (maxSteps := 2000000) (disch := omega) only [go_sem, ↓reduceIte, Nat.reduceEqDiff, Nat.reduceAdd, Nat.reduceMul, Nat.reduceSub, Int.reduceToNat, Int.reduceAdd, Int.reduceSub, Int.reduceMul, Int.reduceNeg] | with_reducible refine vIf_t ?_ | with_reducible refine vIf_f ?_)))
    simp [okGs, he, ha]
    omega
set_option maxHeartbeats 4000000 in
theorem openHS_ok (gs : List Gt) (hl : gs.length ≤ 10000000) : ACalls Try.prog 28 [.sl gs.length (cGt gs)] [] (fun r o => r = .tup [.sl (ohL gs).length (ints (ohL gs)), I (ohC gs)] ∧ o = []) := by
  refine RowR.fz ?_
  unfold RowR
  refine ACalls.of_vc Try.func28 rfl (by decide) 26 rfl [.tmp 2, .tmp 3] rfl (by simp) ?_
  (repeat (first | simp (maxSteps := 2000000) (disch := omega) only [go_sem, ↓reduceIte, Nat.reduceEqDiff, Nat.reduceAdd, Nat.reduceMul, Nat.reduceSub, Int.reduceToNat, Int.reduceAdd, Int.reduceSub, Int.reduceMul, Int.reduceNeg] | with_reducible refine vIf_t ?_ | with_reducible refine vIf_f ?_))
  (refine vCallX_of ?_; (repeat (first | simp (maxSteps := 2000000) (disch := omega) only [go_sem, ↓reduceIte, Nat.reduceEqDiff, Nat.reduceAdd, Nat.reduceMul, Nat.reduceSub, Int.reduceToNat, Int.reduceAdd, Int.reduceSub, Int.reduceMul, Int.reduceNeg] | with_reducible refine vIf_t ?_ | with_reducible refine vIf_f ?_)); refine vCall_eq (l09Gates_ok gs hl) (by simp (disch := omega) only [go_sem, Nat.reduceAdd]) rfl (by first | exact Or.inl rfl | exact Or.inr ⟨rfl, rfl⟩ | (apply Or.inr; simp only [go_sem])) ?_; (repeat (first | simp (maxSteps := 2000000) (disch := omega) only [go_sem, ↓reduceIte, Nat.reduceEqDiff, Nat.reduceAdd, Nat.reduceMul, Nat.reduceSub, Int.reduceToNat, Int.reduceAdd, Int.reduceSub, Int.reduceMul, Int.reduceNeg] | with_reducible refine vIf_t ?_ | with_reducible refine vIf_f ?_)))
  cases hok : okGs gs with
  | false =>
    simp only [ohL, ohC, hok]
    (repeat (first | simp (maxSteps := 2000000) (disch := omega) only [go_sem, ↓reduceIte, Nat.reduceEqDiff, Nat.reduceAdd, Nat.reduceMul, Nat.reduceSub, Int.reduceToNat, Int.reduceAdd, Int.reduceSub, Int.reduceMul, Int.reduceNeg] | with_reducible refine vIf_t ?_ | with_reducible refine vIf_f ?_))
    (refine retK_of ?_; (repeat (first | simp (maxSteps := 2000000) (disch := omega) only [go_sem, ↓reduceIte, Nat.reduceEqDiff, Nat.reduceAdd, Nat.reduceMul, Nat.reduceSub, Int.reduceToNat, Int.reduceAdd, Int.reduceSub, Int.reduceMul, Int.reduceNeg] | with_reducible refine vIf_t ?_ | with_reducible refine vIf_f ?_)))
    first | exact trivial | (simp; done)
  | true =>
    simp only [ohL, ohC, hok, if_true]
    (repeat (first | simp (maxSteps := 2000000) (disch := omega) only [go_sem, ↓reduceIte, Nat.reduceEqDiff, Nat.reduceAdd, Nat.reduceMul, Nat.reduceSub, Int.reduceToNat, Int.reduceAdd, Int.reduceSub, Int.reduceMul, Int.reduceNeg] | with_reducible refine vIf_t ?_ | with_reducible refine vIf_f ?_))
    refine vcLoop_invF (fun k : Nat => k ≤ gs.length) (fun k => ⟨26, 0, [(5, I k), (4, .ref 0 0 (ixs k fun i => (gGt gs i).op).length), (0, .sl gs.length (cGt gs))], [oI (ixs k fun i => (gGt gs i).op)]⟩) (fun k => gs.length - k) 0 (by omega) (by rw [ixs_zero]; (first | (refine leF_s ?_; ((repeat (first | simp (maxSteps := 2000000) (disch := omega) only [go_sem, ↓reduceIte, Nat.reduceEqDiff, Nat.reduceAdd, Nat.reduceMul, Nat.reduceSub, Int.reduceToNat, Int.reduceAdd, Int.reduceSub, Int.reduceMul, Int.reduceNeg] | with_reducible refine vIf_t ?_ | with_reducible refine vIf_f ?_)); all_goals (try simp); all_goals (try omega)); done) | (refine leF_p ?_; ((repeat (first | simp (maxSteps := 2000000) (disch := omega) only [go_sem, ↓reduceIte, Nat.reduceEqDiff, Nat.reduceAdd, Nat.reduceMul, Nat.reduceSub, Int.reduceToNat, Int.reduceAdd, Int.reduceSub, Int.reduceMul, Int.reduceNeg] | with_reducible refine vIf_t ?_ | with_reducible refine vIf_f ?_)); all_goals (try simp); all_goals (try omega)); done))) ?_
    intro k hk
    have hil := ixs_len k (fun i => (gGt gs i).op)
    (repeat (first | simp (maxSteps := 2000000) (disch := omega) only [go_sem, ↓reduceIte, Nat.reduceEqDiff, Nat.reduceAdd, Nat.reduceMul, Nat.reduceSub, Int.reduceToNat, Int.reduceAdd, Int.reduceSub, Int.reduceMul, Int.reduceNeg] | with_reducible refine vIf_t ?_ | with_reducible refine vIf_f ?_))
    refine vIf_dec (fun h => ?_) (fun h => ?_)
    · have hkl : k < gs.length := by omega
      cases hop : (gGt gs k).op with
      | true =>
        have e := ixs_yes (n := k) (q := fun i => (gGt gs i).op) hop
        (repeat (first | simp (maxSteps := 2000000) (disch := omega) only [go_sem, ↓reduceIte, Nat.reduceEqDiff, Nat.reduceAdd, Nat.reduceMul, Nat.reduceSub, Int.reduceToNat, Int.reduceAdd, Int.reduceSub, Int.reduceMul, Int.reduceNeg, hop] | with_reducible refine vIf_t ?_ | with_reducible refine vIf_f ?_))
        refine againF (k + 1) (by omega) (by omega) ?_
        rw [e]
        (first | (refine leF_s ?_; ((repeat (first | simp (maxSteps := 2000000) (disch := omega) only [go_sem, ↓reduceIte, Nat.reduceEqDiff, Nat.reduceAdd, Nat.reduceMul, Nat.reduceSub, Int.reduceToNat, Int.reduceAdd, Int.reduceSub, Int.reduceMul, Int.reduceNeg] | with_reducible refine vIf_t ?_ | with_reducible refine vIf_f ?_)); all_goals (try simp); all_goals (try omega)); done) | (refine leF_p ?_; ((repeat (first | simp (maxSteps := 2000000) (disch := omega) only [go_sem, ↓reduceIte, Nat.reduceEqDiff, Nat.reduceAdd, Nat.reduceMul, Nat.reduceSub, Int.reduceToNat, Int.reduceAdd, Int.reduceSub, Int.reduceMul, Int.reduceNeg] | with_reducible refine vIf_t ?_ | with_reducible refine vIf_f ?_)); all_goals (try simp); all_goals (try omega)); done))
      | false =>
        have e := ixs_no (n := k) (q := fun i => (gGt gs i).op) hop
        (repeat (first | simp (maxSteps := 2000000) (disch := omega) only [go_sem, ↓reduceIte, Nat.reduceEqDiff, Nat.reduceAdd, Nat.reduceMul, Nat.reduceSub, Int.reduceToNat, Int.reduceAdd, Int.reduceSub, Int.reduceMul, Int.reduceNeg, hop] | with_reducible refine vIf_t ?_ | with_reducible refine vIf_f ?_))
        refine againF (k + 1) (by omega) (by omega) ?_
        rw [e]
        (first | (refine leF_s ?_; ((repeat (first | simp (maxSteps := 2000000) (disch := omega) only [go_sem, ↓reduceIte, Nat.reduceEqDiff, Nat.reduceAdd, Nat.reduceMul, Nat.reduceSub, Int.reduceToNat, Int.reduceAdd, Int.reduceSub, Int.reduceMul, Int.reduceNeg] | with_reducible refine vIf_t ?_ | with_reducible refine vIf_f ?_)); all_goals (try simp); all_goals (try omega)); done) | (refine leF_p ?_; ((repeat (first | simp (maxSteps := 2000000) (disch := omega) only [go_sem, ↓reduceIte, Nat.reduceEqDiff, Nat.reduceAdd, Nat.reduceMul, Nat.reduceSub, Int.reduceToNat, Int.reduceAdd, Int.reduceSub, Int.reduceMul, Int.reduceNeg] | with_reducible refine vIf_t ?_ | with_reducible refine vIf_f ?_)); all_goals (try simp); all_goals (try omega)); done))
    · have hke : k = gs.length := by omega
      subst hke
      (repeat (first | simp (maxSteps := 2000000) (disch := omega) only [go_sem, ↓reduceIte, Nat.reduceEqDiff, Nat.reduceAdd, Nat.reduceMul, Nat.reduceSub, Int.reduceToNat, Int.reduceAdd, Int.reduceSub, Int.reduceMul, Int.reduceNeg] | with_reducible refine vIf_t ?_ | with_reducible refine vIf_f ?_))
      (refine retK_of ?_; (repeat (first | simp (maxSteps := 2000000) (disch := omega) only [go_sem, ↓reduceIte, Nat.reduceEqDiff, Nat.reduceAdd, Nat.reduceMul, Nat.reduceSub, Int.reduceToNat, Int.reduceAdd, Int.reduceSub, Int.reduceMul, Int.reduceNeg] | with_reducible refine vIf_t ?_ | with_reducible refine vIf_f ?_)))
      first | exact trivial | (simp; done)
end Go.Proofs.Ythnphcinjchloaa

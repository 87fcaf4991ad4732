/- who is called: the law -/
import Derived.Test.YtilocioajpcoiaaCal2
import Derived.Test.YtilocioajpcoiaaCal3
import Derived.Test.YtilocioajpcoiaaA2
import Derived.Test.YtilocioajpcoiaaArgs
set_option linter.unusedVariables false
set_option linter.unusedSimpArgs false
namespace Go.Proofs.Ytilocioajpcoiaa
open Go.AG Go.Lib

attribute [local go_sem] bne_self_eq_false beq_self_eq_true Bool.not_true Bool.not_false
@[local go_sem] theorem mk_txD (l : List UInt8) : ByteArray.mk (List.toArray l) = tx l := rfl
@[local go_sem] theorem vBin_geqs (dd : AD) (a b : ByteArray) (K : V → Prop) : vBin dd .geq (.sc (.string a)) (.sc (.string b)) K = K (.sc (.bool (!(Op.bytesLess a.toList b.toList)))) := by simp [vBin, sbin]
theorem bl_lt : ∀ (x y : List UInt8), x < y → Op.bytesLess x y = true
  | [], [], h => absurd h (List.lt_irrefl _)
  | _ :: _, [], h => absurd h (List.not_lt_nil _)
  | [], _ :: _, _ => rfl
  | a :: x, b :: y, h => by
    rw [List.cons_lt_cons_iff] at h
    simp only [Op.bytesLess, Bool.or_eq_true, Bool.and_eq_true, decide_eq_true_eq, beq_iff_eq]
    rcases h with h | ⟨rfl, h⟩
    · exact .inl h
    · exact .inr ⟨rfl, bl_lt x y h⟩
/-- the name is among the first k -/
def fdK (c : List ByteArray) (s : ByteArray) (k : Nat) : Bool := inS s (c.take k)
theorem fdK_succ (c : List ByteArray) (s : ByteArray) (k : Nat) (h : k < c.length) : fdK c s (k + 1) = (fdK c s k || decide (gs c k = s)) := by
  unfold fdK inS
  rw [gs_take_succ c k h, List.any_append]
  simp
theorem called_le {L : List (List ByteArray)} (h : NmD L) (k : Nat) : (sS (calN (L.take k))).length ≤ 5 := by
  rw [sS_len]
  refine nodup_le _ nmL (h.x.bd k).1 fun x hx => ?_
  obtain ⟨i, h1, h2, h3⟩ := ((h.x.bd k).2.1 x).1 hx
  exact (h.r i h2).2 x h3
structure BoxC (G : Prop) : Prop where
  g : G
theorem joinCl {G H : Prop} (h : BoxC G → H) (g : G) : H := h ⟨g⟩
def frV (o : Option Nat) : Int := match o with
  | some i => (i : Int) + 1
  | none => 0
def oneV (o : Option Nat) : Int := match o with
  | some _ => 0
  | none => 3
theorem stV_eq (o : Option Nat) : stV o = .tup [I (frV o), I (oneV o)] := by cases o <;> rfl
/-- the name is called at a stage just if the first row that has it comes before -/
theorem found_ok {L : List (List ByteArray)} (h : NmD L) (s : ByteArray) (k : Nat) (hk : k ≤ L.length) :
    fdK (sS (calN (L.take k))) s (sS (calN (L.take k))).length = ((oneV (stR L s) == 0) && decide (frV (stR L s) ≤ k)) := by
  unfold fdK
  rw [List.take_length]
  have h1 : inS s (sS (calN (L.take k))) = true ↔ ∃ i, i < k ∧ i < L.length ∧ s ∈ grT L i := by rw [inS_iff, sS_mem, (h.x.bd k).2.1]
  rcases stN_ok L s L.length 0 with ⟨g1, g2⟩ | ⟨i, g1, g2, g3, g4, g5⟩
  · rw [show stR L s = none from g1]
    simp only [oneV, frV]
    have hx : inS s (sS (calN (List.take k L))) = false := Bool.eq_false_iff.2 fun e => by
      obtain ⟨i, _, hi, hx⟩ := h1.1 e
      have := g2 i (by omega) (by omega)
      rw [inS_iff.2 hx] at this; cases this
    rw [hx]; rfl
  · rw [show stR L s = some i from g1]
    simp only [oneV, frV]
    by_cases e : i < k
    · rw [h1.2 ⟨i, e, by omega, inS_iff.1 g4⟩]
      symm
      rw [Bool.and_eq_true]
      exact ⟨rfl, decide_eq_true (by omega)⟩
    · have hx : inS s (sS (calN (List.take k L))) = false := Bool.eq_false_iff.2 fun e2 => by
        obtain ⟨j, hj, hj2, hx⟩ := h1.1 e2
        have := g5 j (by omega) (by omega)
        rw [inS_iff.2 hx] at this; cases this
      rw [hx]
      symm
      rw [Bool.and_eq_false_iff]
      exact .inr (decide_eq_false (by omega))
theorem st_bd (L : List (List ByteArray)) (s : ByteArray) : (oneV (stR L s) = 0 ∧ 1 ≤ frV (stR L s) ∧ frV (stR L s) ≤ L.length) ∨ (oneV (stR L s) = 3 ∧ frV (stR L s) = 0) := by
  rcases stN_ok L s L.length 0 with ⟨g1, g2⟩ | ⟨i, g1, g2, g3, g4, g5⟩
  · rw [show stR L s = none from g1]; exact .inr ⟨rfl, rfl⟩
  · rw [show stR L s = some i from g1]
    refine .inl ⟨rfl, ?_, ?_⟩ <;> simp only [frV] <;> omega
set_option maxRecDepth 100000 in
set_option maxHeartbeats 16000000 in
theorem calLaw_ok (code : List Int) (hb : bOk code) (hl : code.length ≤ 9223372036854775807) : ACalls Try.prog 4 [bS code] [] (fun r o => r = B true ∧ o = []) := by
  refine ACalls.of_vc Try.func4 rfl (by decide) 115 rfl [.tmp 2] rfl (by simp) ?_
  have hlong : ACalls Try.prog 7 [.sl code.length (bts code), .sc (.slice none 0 0)] [] (fun r o => r = B (decide (3000 < (code.length : Int))) ∧ o = []) := by
    have h := (a2Long_ok code [] hl (by simp)).arg (leA_same _ (leA_nilS leA_nil))
    rw [show (decide (3000 < (code.length : Int)) || decide (3000 < (([] : List Int).length : Int))) = decide (3000 < (code.length : Int)) by simp] at h
    exact h
  unfold bS
  (repeat (first | simp (maxSteps := 2000000) (disch := omega) only [go_sem, ↓reduceIte, Nat.reduceEqDiff, Nat.reduceAdd, Nat.reduceMul, Nat.reduceSub, Int.reduceToNat, Int.reduceAdd, Int.reduceSub, Int.reduceMul, Int.reduceNeg] | with_reducible refine vIf_t ?_ | with_reducible refine vIf_f ?_))
  (refine vCallX_of ?_; (repeat (first | simp (maxSteps := 2000000) (disch := omega) only [go_sem, ↓reduceIte, Nat.reduceEqDiff, Nat.reduceAdd, Nat.reduceMul, Nat.reduceSub, Int.reduceToNat, Int.reduceAdd, Int.reduceSub, Int.reduceMul, Int.reduceNeg] | with_reducible refine vIf_t ?_ | with_reducible refine vIf_f ?_)); refine vCall_eq (hlong) (by simp (disch := omega) only [go_sem, Nat.reduceAdd]) rfl (by first | exact Or.inl rfl | exact Or.inr ⟨rfl, rfl⟩ | (apply Or.inr; simp only [go_sem])) ?_; (repeat (first | simp (maxSteps := 2000000) (disch := omega) only [go_sem, ↓reduceIte, Nat.reduceEqDiff, Nat.reduceAdd, Nat.reduceMul, Nat.reduceSub, Int.reduceToNat, Int.reduceAdd, Int.reduceSub, Int.reduceMul, Int.reduceNeg] | with_reducible refine vIf_t ?_ | with_reducible refine vIf_f ?_)))
  refine vIf_dec (fun h => ?_) (fun h => ?_)
  · (repeat (first | simp (maxSteps := 2000000) (disch := omega) only [go_sem, ↓reduceIte, Nat.reduceEqDiff, Nat.reduceAdd, Nat.reduceMul, Nat.reduceSub, Int.reduceToNat, Int.reduceAdd, Int.reduceSub, Int.reduceMul, Int.reduceNeg] | with_reducible refine vIf_t ?_ | with_reducible refine vIf_f ?_))
    (refine retK_of ?_; (repeat (first | simp (maxSteps := 2000000) (disch := omega) only [go_sem, ↓reduceIte, Nat.reduceEqDiff, Nat.reduceAdd, Nat.reduceMul, Nat.reduceSub, Int.reduceToNat, Int.reduceAdd, Int.reduceSub, Int.reduceMul, Int.reduceNeg] | with_reducible refine vIf_t ?_ | with_reducible refine vIf_f ?_)))
  have g : SrOk code := ⟨hb, by omega⟩
  have hd := a2Called_ok code g
  unfold bS at hd
  (repeat (first | simp (maxSteps := 2000000) (disch := omega) only [go_sem, ↓reduceIte, Nat.reduceEqDiff, Nat.reduceAdd, Nat.reduceMul, Nat.reduceSub, Int.reduceToNat, Int.reduceAdd, Int.reduceSub, Int.reduceMul, Int.reduceNeg] | with_reducible refine vIf_t ?_ | with_reducible refine vIf_f ?_))
  (refine vCallX_of ?_; (repeat (first | simp (maxSteps := 2000000) (disch := omega) only [go_sem, ↓reduceIte, Nat.reduceEqDiff, Nat.reduceAdd, Nat.reduceMul, Nat.reduceSub, Int.reduceToNat, Int.reduceAdd, Int.reduceSub, Int.reduceMul, Int.reduceNeg] | with_reducible refine vIf_t ?_ | with_reducible refine vIf_f ?_)); refine vCall_ex (hd) (by simp (disch := omega) only [go_sem, Nat.reduceAdd]) rfl ?_); rintro _ _ ⟨L, rfl, rfl, hD⟩; (refine ⟨(by first | exact Or.inl rfl | exact Or.inr ⟨rfl, rfl⟩ | (apply Or.inr; simp only [go_sem])), ?_⟩; (repeat (first | simp (maxSteps := 2000000) (disch := omega) only [go_sem, ↓reduceIte, Nat.reduceEqDiff, Nat.reduceAdd, Nat.reduceMul, Nat.reduceSub, Int.reduceToNat, Int.reduceAdd, Int.reduceSub, Int.reduceMul, Int.reduceNeg] | with_reducible refine vIf_t ?_ | with_reducible refine vIf_f ?_)))
  have X := hD.x
  have hn := hD.n
  have hnl : nmL.length = 5 := rfl
  have hnm : [tx [97, 110, 110, 97], tx [98, 111], tx [99, 104, 97, 105, 114], tx [100, 105, 107, 101, 45, 49], tx [101, 118, 101]] = nmL := rfl
  (repeat (first | simp (maxSteps := 2000000) (disch := omega) only [go_sem, ↓reduceIte, Nat.reduceEqDiff, Nat.reduceAdd, Nat.reduceMul, Nat.reduceSub, Int.reduceToNat, Int.reduceAdd, Int.reduceSub, Int.reduceMul, Int.reduceNeg, hnm] | with_reducible refine vIf_t ?_ | with_reducible refine vIf_f ?_))
  refine vcLoop_invF (fun i : Nat => i ≤ 5) (fun i => ⟨115, 0, [(5, I i), (4, .ref 1 0 5), (3, .ref 0 0 L.length)], [some ⟨1, rwT L⟩, some ⟨1, strs nmL⟩]⟩) (fun i => 5 - i) 0 (by omega) (by (first | (refine leF_s ?_; ((repeat (first | simp (maxSteps := 2000000) (disch := omega) only [go_sem, ↓reduceIte, Nat.reduceEqDiff, Nat.reduceAdd, Nat.reduceMul, Nat.reduceSub, Int.reduceToNat, Int.reduceAdd, Int.reduceSub, Int.reduceMul, Int.reduceNeg] | with_reducible refine vIf_t ?_ | with_reducible refine vIf_f ?_)); all_goals (try simp); all_goals (try omega)); done) | (refine leF_p ?_; ((repeat (first | simp (maxSteps := 2000000) (disch := omega) only [go_sem, ↓reduceIte, Nat.reduceEqDiff, Nat.reduceAdd, Nat.reduceMul, Nat.reduceSub, Int.reduceToNat, Int.reduceAdd, Int.reduceSub, Int.reduceMul, Int.reduceNeg] | with_reducible refine vIf_t ?_ | with_reducible refine vIf_f ?_)); all_goals (try simp); all_goals (try omega)); done))) ?_
  intro i hi
  (repeat (first | simp (maxSteps := 2000000) (disch := omega) only [go_sem, ↓reduceIte, Nat.reduceEqDiff, Nat.reduceAdd, Nat.reduceMul, Nat.reduceSub, Int.reduceToNat, Int.reduceAdd, Int.reduceSub, Int.reduceMul, Int.reduceNeg] | with_reducible refine vIf_t ?_ | with_reducible refine vIf_f ?_))
  refine vIf_dec (fun h1 => ?_) (fun h1 => ?_)
  · have hi5 : i < nmL.length := by omega
    obtain ⟨l, el, hlB⟩ := nmL_ok (gs_mem nmL i hi5)
    have q1 := stageOf_ok L X l hlB
    rw [stV_eq, ← el] at q1
    have hbd := st_bd L (gs nmL i)
    have hfd := fun k hk => found_ok hD (gs nmL i) k hk
    generalize hs : gs nmL i = s at *
    generalize frV (stR L s) = fr at *
    generalize oneV (stR L s) = one at *
    (repeat (first | simp (maxSteps := 2000000) (disch := omega) only [go_sem, ↓reduceIte, Nat.reduceEqDiff, Nat.reduceAdd, Nat.reduceMul, Nat.reduceSub, Int.reduceToNat, Int.reduceAdd, Int.reduceSub, Int.reduceMul, Int.reduceNeg, hs] | with_reducible refine vIf_t ?_ | with_reducible refine vIf_f ?_))
    (refine vCallX_of ?_; (repeat (first | simp (maxSteps := 2000000) (disch := omega) only [go_sem, ↓reduceIte, Nat.reduceEqDiff, Nat.reduceAdd, Nat.reduceMul, Nat.reduceSub, Int.reduceToNat, Int.reduceAdd, Int.reduceSub, Int.reduceMul, Int.reduceNeg] | with_reducible refine vIf_t ?_ | with_reducible refine vIf_f ?_)); refine vCall_eq (q1) (by simp (disch := omega) only [go_sem, Nat.reduceAdd]) rfl (by first | exact Or.inl rfl | exact Or.inr ⟨rfl, rfl⟩ | (apply Or.inr; simp only [go_sem])) ?_; (repeat (first | simp (maxSteps := 2000000) (disch := omega) only [go_sem, ↓reduceIte, Nat.reduceEqDiff, Nat.reduceAdd, Nat.reduceMul, Nat.reduceSub, Int.reduceToNat, Int.reduceAdd, Int.reduceSub, Int.reduceMul, Int.reduceNeg] | with_reducible refine vIf_t ?_ | with_reducible refine vIf_f ?_)))
    apply joinCl
    · intro common
      rcases hbd with ⟨o1, f1, f2⟩ | ⟨o1, f1⟩
      · have d1 : decide (fr < 1) = false := decide_eq_false (by omega)
        have d2 : decide ((L.length : Int) < fr) = false := decide_eq_false (by omega)
        have d3 : (one != 0) = false := by rw [o1]; rfl
        have d4 : (one == 0) = true := by rw [o1]; rfl
        (repeat (first | simp (maxSteps := 2000000) (disch := omega) only [go_sem, ↓reduceIte, Nat.reduceEqDiff, Nat.reduceAdd, Nat.reduceMul, Nat.reduceSub, Int.reduceToNat, Int.reduceAdd, Int.reduceSub, Int.reduceMul, Int.reduceNeg, d1, d2, d3, d4] | with_reducible refine vIf_t ?_ | with_reducible refine vIf_f ?_))
        refine vcLoop_invF (fun st : Nat => st ≤ L.length + 1) (fun st => ⟨115, 0, [(8, I st), (5, I i), (4, .ref 1 0 5), (6, I fr), (7, I one), (3, .ref 0 0 L.length)], [some ⟨1, rwT L⟩, some ⟨1, strs nmL⟩]⟩) (fun st => L.length + 1 - st) 0 (by omega) (by (first | (refine leF_s ?_; ((repeat (first | simp (maxSteps := 2000000) (disch := omega) only [go_sem, ↓reduceIte, Nat.reduceEqDiff, Nat.reduceAdd, Nat.reduceMul, Nat.reduceSub, Int.reduceToNat, Int.reduceAdd, Int.reduceSub, Int.reduceMul, Int.reduceNeg] | with_reducible refine vIf_t ?_ | with_reducible refine vIf_f ?_)); all_goals (try simp); all_goals (try omega)); done) | (refine leF_p ?_; ((repeat (first | simp (maxSteps := 2000000) (disch := omega) only [go_sem, ↓reduceIte, Nat.reduceEqDiff, Nat.reduceAdd, Nat.reduceMul, Nat.reduceSub, Int.reduceToNat, Int.reduceAdd, Int.reduceSub, Int.reduceMul, Int.reduceNeg] | with_reducible refine vIf_t ?_ | with_reducible refine vIf_f ?_)); all_goals (try simp); all_goals (try omega)); done))) common.g
      · have d3 : (one != 0) = true := by rw [o1]; rfl
        have d4 : (one == 0) = false := by rw [o1]; rfl
        have d5 : (one != 3) = false := by rw [o1]; rfl
        (repeat (first | simp (maxSteps := 2000000) (disch := omega) only [go_sem, ↓reduceIte, Nat.reduceEqDiff, Nat.reduceAdd, Nat.reduceMul, Nat.reduceSub, Int.reduceToNat, Int.reduceAdd, Int.reduceSub, Int.reduceMul, Int.reduceNeg, d3, d4, d5] | with_reducible refine vIf_t ?_ | with_reducible refine vIf_f ?_))
        refine vcLoop_invF (fun st : Nat => st ≤ L.length + 1) (fun st => ⟨115, 0, [(8, I st), (5, I i), (4, .ref 1 0 5), (6, I fr), (7, I one), (3, .ref 0 0 L.length)], [some ⟨1, rwT L⟩, some ⟨1, strs nmL⟩]⟩) (fun st => L.length + 1 - st) 0 (by omega) (by (first | (refine leF_s ?_; ((repeat (first | simp (maxSteps := 2000000) (disch := omega) only [go_sem, ↓reduceIte, Nat.reduceEqDiff, Nat.reduceAdd, Nat.reduceMul, Nat.reduceSub, Int.reduceToNat, Int.reduceAdd, Int.reduceSub, Int.reduceMul, Int.reduceNeg] | with_reducible refine vIf_t ?_ | with_reducible refine vIf_f ?_)); all_goals (try simp); all_goals (try omega)); done) | (refine leF_p ?_; ((repeat (first | simp (maxSteps := 2000000) (disch := omega) only [go_sem, ↓reduceIte, Nat.reduceEqDiff, Nat.reduceAdd, Nat.reduceMul, Nat.reduceSub, Int.reduceToNat, Int.reduceAdd, Int.reduceSub, Int.reduceMul, Int.reduceNeg] | with_reducible refine vIf_t ?_ | with_reducible refine vIf_f ?_)); all_goals (try simp); all_goals (try omega)); done))) common.g
    · intro st hst
      (repeat (first | simp (maxSteps := 2000000) (disch := omega) only [go_sem, ↓reduceIte, Nat.reduceEqDiff, Nat.reduceAdd, Nat.reduceMul, Nat.reduceSub, Int.reduceToNat, Int.reduceAdd, Int.reduceSub, Int.reduceMul, Int.reduceNeg] | with_reducible refine vIf_t ?_ | with_reducible refine vIf_f ?_))
      refine vIf_dec (fun h2 => ?_) (fun h2 => ?_)
      · have hk : st ≤ L.length := by omega
        have q2 := calledAt_ok L X st hk
        have hf := hfd st hk
        have hc5 := called_le hD st
        have hup := fun i j hij hj => sS_up (hD.x.bd st).1 i j hij hj
        generalize sS (calN (L.take st)) = c at *
        have d5 : decide (5 < (c.length : Int)) = false := decide_eq_false (by omega)
        (repeat (first | simp (maxSteps := 2000000) (disch := omega) only [go_sem, ↓reduceIte, Nat.reduceEqDiff, Nat.reduceAdd, Nat.reduceMul, Nat.reduceSub, Int.reduceToNat, Int.reduceAdd, Int.reduceSub, Int.reduceMul, Int.reduceNeg] | with_reducible refine vIf_t ?_ | with_reducible refine vIf_f ?_))
        (refine vCallX_of ?_; (repeat (first | simp (maxSteps := 2000000) (disch := omega) only [go_sem, ↓reduceIte, Nat.reduceEqDiff, Nat.reduceAdd, Nat.reduceMul, Nat.reduceSub, Int.reduceToNat, Int.reduceAdd, Int.reduceSub, Int.reduceMul, Int.reduceNeg] | with_reducible refine vIf_t ?_ | with_reducible refine vIf_f ?_)); refine vCall_eq (q2) (by simp (disch := omega) only [go_sem, Nat.reduceAdd]) rfl (by first | exact Or.inl rfl | exact Or.inr ⟨rfl, rfl⟩ | (apply Or.inr; simp only [go_sem])) ?_; (repeat (first | simp (maxSteps := 2000000) (disch := omega) only [go_sem, ↓reduceIte, Nat.reduceEqDiff, Nat.reduceAdd, Nat.reduceMul, Nat.reduceSub, Int.reduceToNat, Int.reduceAdd, Int.reduceSub, Int.reduceMul, Int.reduceNeg] | with_reducible refine vIf_t ?_ | with_reducible refine vIf_f ?_)))
        (repeat (first | simp (maxSteps := 2000000) (disch := omega) only [go_sem, ↓reduceIte, Nat.reduceEqDiff, Nat.reduceAdd, Nat.reduceMul, Nat.reduceSub, Int.reduceToNat, Int.reduceAdd, Int.reduceSub, Int.reduceMul, Int.reduceNeg, d5] | with_reducible refine vIf_t ?_ | with_reducible refine vIf_f ?_))
        refine vcLoop_invF (fun k : Nat => k ≤ c.length) (fun k => ⟨115, 0, [(12, I k), (5, I i), (4, .ref 1 0 5), (9, .ref 2 0 c.length), (11, B (fdK c s k)), (6, I fr), (7, I one), (3, .ref 0 0 L.length), (8, I st)], [some ⟨1, rwT L⟩, some ⟨1, strs nmL⟩, some ⟨1, strs c⟩]⟩) (fun k => c.length - k) 0 (by omega) (by rw [show fdK c s 0 = false from rfl]; (first | (refine leF_s ?_; ((repeat (first | simp (maxSteps := 2000000) (disch := omega) only [go_sem, ↓reduceIte, Nat.reduceEqDiff, Nat.reduceAdd, Nat.reduceMul, Nat.reduceSub, Int.reduceToNat, Int.reduceAdd, Int.reduceSub, Int.reduceMul, Int.reduceNeg] | with_reducible refine vIf_t ?_ | with_reducible refine vIf_f ?_)); all_goals (try simp); all_goals (try omega)); done) | (refine leF_p ?_; ((repeat (first | simp (maxSteps := 2000000) (disch := omega) only [go_sem, ↓reduceIte, Nat.reduceEqDiff, Nat.reduceAdd, Nat.reduceMul, Nat.reduceSub, Int.reduceToNat, Int.reduceAdd, Int.reduceSub, Int.reduceMul, Int.reduceNeg] | with_reducible refine vIf_t ?_ | with_reducible refine vIf_f ?_)); all_goals (try simp); all_goals (try omega)); done))) ?_
        intro k hk2
        (repeat (first | simp (maxSteps := 2000000) (disch := omega) only [go_sem, ↓reduceIte, Nat.reduceEqDiff, Nat.reduceAdd, Nat.reduceMul, Nat.reduceSub, Int.reduceToNat, Int.reduceAdd, Int.reduceSub, Int.reduceMul, Int.reduceNeg] | with_reducible refine vIf_t ?_ | with_reducible refine vIf_f ?_))
        refine vIf_dec (fun h3 => ?_) (fun h3 => ?_)
        · have hkl : k < c.length := by omega
          have e2 := fdK_succ c s k hkl
          (repeat (first | simp (maxSteps := 2000000) (disch := omega) only [go_sem, ↓reduceIte, Nat.reduceEqDiff, Nat.reduceAdd, Nat.reduceMul, Nat.reduceSub, Int.reduceToNat, Int.reduceAdd, Int.reduceSub, Int.reduceMul, Int.reduceNeg] | with_reducible refine vIf_t ?_ | with_reducible refine vIf_f ?_))
          (refine vDraw_of mixed (by kernel_rfl) ?_; (repeat (first | simp (maxSteps := 2000000) (disch := omega) only [go_sem, ↓reduceIte, Nat.reduceEqDiff, Nat.reduceAdd, Nat.reduceMul, Nat.reduceSub, Int.reduceToNat, Int.reduceAdd, Int.reduceSub, Int.reduceMul, Int.reduceNeg] | with_reducible refine vIf_t ?_ | with_reducible refine vIf_f ?_)))
          by_cases k0 : k = 0
          · have d6 : decide ((k : Int) > 0) = false := decide_eq_false (by omega)
            (repeat (first | simp (maxSteps := 2000000) (disch := omega) only [go_sem, ↓reduceIte, Nat.reduceEqDiff, Nat.reduceAdd, Nat.reduceMul, Nat.reduceSub, Int.reduceToNat, Int.reduceAdd, Int.reduceSub, Int.reduceMul, Int.reduceNeg, d6] | with_reducible refine vIf_t ?_ | with_reducible refine vIf_f ?_))
            cases hfk : fdK c s k with
            | true =>
              rw [hfk, Bool.true_or] at e2
              (repeat (first | simp (maxSteps := 2000000) (disch := omega) only [go_sem, ↓reduceIte, Nat.reduceEqDiff, Nat.reduceAdd, Nat.reduceMul, Nat.reduceSub, Int.reduceToNat, Int.reduceAdd, Int.reduceSub, Int.reduceMul, Int.reduceNeg, hfk] | with_reducible refine vIf_t ?_ | with_reducible refine vIf_f ?_))
              (refine vDraw_of mixed (by kernel_rfl) ?_; (repeat (first | simp (maxSteps := 2000000) (disch := omega) only [go_sem, ↓reduceIte, Nat.reduceEqDiff, Nat.reduceAdd, Nat.reduceMul, Nat.reduceSub, Int.reduceToNat, Int.reduceAdd, Int.reduceSub, Int.reduceMul, Int.reduceNeg] | with_reducible refine vIf_t ?_ | with_reducible refine vIf_f ?_)))
              refine againF (k + 1) (by omega) (by omega) (by rw [e2]; (first | (refine leF_s ?_; ((repeat (first | simp (maxSteps := 2000000) (disch := omega) only [go_sem, ↓reduceIte, Nat.reduceEqDiff, Nat.reduceAdd, Nat.reduceMul, Nat.reduceSub, Int.reduceToNat, Int.reduceAdd, Int.reduceSub, Int.reduceMul, Int.reduceNeg] | with_reducible refine vIf_t ?_ | with_reducible refine vIf_f ?_)); all_goals (try simp); all_goals (try omega)); done) | (refine leF_p ?_; ((repeat (first | simp (maxSteps := 2000000) (disch := omega) only [go_sem, ↓reduceIte, Nat.reduceEqDiff, Nat.reduceAdd, Nat.reduceMul, Nat.reduceSub, Int.reduceToNat, Int.reduceAdd, Int.reduceSub, Int.reduceMul, Int.reduceNeg] | with_reducible refine vIf_t ?_ | with_reducible refine vIf_f ?_)); all_goals (try simp); all_goals (try omega)); done)))
            | false =>
              rw [hfk, Bool.false_or] at e2
              (repeat (first | simp (maxSteps := 2000000) (disch := omega) only [go_sem, ↓reduceIte, Nat.reduceEqDiff, Nat.reduceAdd, Nat.reduceMul, Nat.reduceSub, Int.reduceToNat, Int.reduceAdd, Int.reduceSub, Int.reduceMul, Int.reduceNeg, hfk] | with_reducible refine vIf_t ?_ | with_reducible refine vIf_f ?_))
              (refine vDraw_of mixed (by kernel_rfl) ?_; (repeat (first | simp (maxSteps := 2000000) (disch := omega) only [go_sem, ↓reduceIte, Nat.reduceEqDiff, Nat.reduceAdd, Nat.reduceMul, Nat.reduceSub, Int.reduceToNat, Int.reduceAdd, Int.reduceSub, Int.reduceMul, Int.reduceNeg] | with_reducible refine vIf_t ?_ | with_reducible refine vIf_f ?_)))
              (repeat (first | simp (maxSteps := 2000000) (disch := omega) only [go_sem, ↓reduceIte, Nat.reduceEqDiff, Nat.reduceAdd, Nat.reduceMul, Nat.reduceSub, Int.reduceToNat, Int.reduceAdd, Int.reduceSub, Int.reduceMul, Int.reduceNeg, hs, ba_eq] | with_reducible refine vIf_t ?_ | with_reducible refine vIf_f ?_))
              refine againF (k + 1) (by omega) (by omega) (by rw [e2]; (first | (refine leF_s ?_; ((repeat (first | simp (maxSteps := 2000000) (disch := omega) only [go_sem, ↓reduceIte, Nat.reduceEqDiff, Nat.reduceAdd, Nat.reduceMul, Nat.reduceSub, Int.reduceToNat, Int.reduceAdd, Int.reduceSub, Int.reduceMul, Int.reduceNeg] | with_reducible refine vIf_t ?_ | with_reducible refine vIf_f ?_)); all_goals (try simp); all_goals (try omega)); done) | (refine leF_p ?_; ((repeat (first | simp (maxSteps := 2000000) (disch := omega) only [go_sem, ↓reduceIte, Nat.reduceEqDiff, Nat.reduceAdd, Nat.reduceMul, Nat.reduceSub, Int.reduceToNat, Int.reduceAdd, Int.reduceSub, Int.reduceMul, Int.reduceNeg] | with_reducible refine vIf_t ?_ | with_reducible refine vIf_f ?_)); all_goals (try simp); all_goals (try omega)); done)))
          · have d6 : decide ((k : Int) > 0) = true := decide_eq_true (by omega)
            have hlt := bl_lt _ _ (hup (k - 1) k (by omega) hkl)
            rw [← ByteArray.toList_eq, ← ByteArray.toList_eq] at hlt
            have hk1 : ((k : Int) - 1).toNat = k - 1 := by omega
            (repeat (first | simp (maxSteps := 2000000) (disch := omega) only [go_sem, ↓reduceIte, Nat.reduceEqDiff, Nat.reduceAdd, Nat.reduceMul, Nat.reduceSub, Int.reduceToNat, Int.reduceAdd, Int.reduceSub, Int.reduceMul, Int.reduceNeg, d6, hk1, hlt] | with_reducible refine vIf_t ?_ | with_reducible refine vIf_f ?_))
            cases hfk : fdK c s k with
            | true =>
              rw [hfk, Bool.true_or] at e2
              (repeat (first | simp (maxSteps := 2000000) (disch := omega) only [go_sem, ↓reduceIte, Nat.reduceEqDiff, Nat.reduceAdd, Nat.reduceMul, Nat.reduceSub, Int.reduceToNat, Int.reduceAdd, Int.reduceSub, Int.reduceMul, Int.reduceNeg, hfk] | with_reducible refine vIf_t ?_ | with_reducible refine vIf_f ?_))
              (refine vDraw_of mixed (by kernel_rfl) ?_; (repeat (first | simp (maxSteps := 2000000) (disch := omega) only [go_sem, ↓reduceIte, Nat.reduceEqDiff, Nat.reduceAdd, Nat.reduceMul, Nat.reduceSub, Int.reduceToNat, Int.reduceAdd, Int.reduceSub, Int.reduceMul, Int.reduceNeg] | with_reducible refine vIf_t ?_ | with_reducible refine vIf_f ?_)))
              refine againF (k + 1) (by omega) (by omega) (by rw [e2]; (first | (refine leF_s ?_; ((repeat (first | simp (maxSteps := 2000000) (disch := omega) only [go_sem, ↓reduceIte, Nat.reduceEqDiff, Nat.reduceAdd, Nat.reduceMul, Nat.reduceSub, Int.reduceToNat, Int.reduceAdd, Int.reduceSub, Int.reduceMul, Int.reduceNeg] | with_reducible refine vIf_t ?_ | with_reducible refine vIf_f ?_)); all_goals (try simp); all_goals (try omega)); done) | (refine leF_p ?_; ((repeat (first | simp (maxSteps := 2000000) (disch := omega) only [go_sem, ↓reduceIte, Nat.reduceEqDiff, Nat.reduceAdd, Nat.reduceMul, Nat.reduceSub, Int.reduceToNat, Int.reduceAdd, Int.reduceSub, Int.reduceMul, Int.reduceNeg] | with_reducible refine vIf_t ?_ | with_reducible refine vIf_f ?_)); all_goals (try simp); all_goals (try omega)); done)))
            | false =>
              rw [hfk, Bool.false_or] at e2
              (repeat (first | simp (maxSteps := 2000000) (disch := omega) only [go_sem, ↓reduceIte, Nat.reduceEqDiff, Nat.reduceAdd, Nat.reduceMul, Nat.reduceSub, Int.reduceToNat, Int.reduceAdd, Int.reduceSub, Int.reduceMul, Int.reduceNeg, hfk] | with_reducible refine vIf_t ?_ | with_reducible refine vIf_f ?_))
              (refine vDraw_of mixed (by kernel_rfl) ?_; (repeat (first | simp (maxSteps := 2000000) (disch := omega) only [go_sem, ↓reduceIte, Nat.reduceEqDiff, Nat.reduceAdd, Nat.reduceMul, Nat.reduceSub, Int.reduceToNat, Int.reduceAdd, Int.reduceSub, Int.reduceMul, Int.reduceNeg] | with_reducible refine vIf_t ?_ | with_reducible refine vIf_f ?_)))
              (repeat (first | simp (maxSteps := 2000000) (disch := omega) only [go_sem, ↓reduceIte, Nat.reduceEqDiff, Nat.reduceAdd, Nat.reduceMul, Nat.reduceSub, Int.reduceToNat, Int.reduceAdd, Int.reduceSub, Int.reduceMul, Int.reduceNeg, hs, ba_eq] | with_reducible refine vIf_t ?_ | with_reducible refine vIf_f ?_))
              refine againF (k + 1) (by omega) (by omega) (by rw [e2]; (first | (refine leF_s ?_; ((repeat (first | simp (maxSteps := 2000000) (disch := omega) only [go_sem, ↓reduceIte, Nat.reduceEqDiff, Nat.reduceAdd, Nat.reduceMul, Nat.reduceSub, Int.reduceToNat, Int.reduceAdd, Int.reduceSub, Int.reduceMul, Int.reduceNeg] | with_reducible refine vIf_t ?_ | with_reducible refine vIf_f ?_)); all_goals (try simp); all_goals (try omega)); done) | (refine leF_p ?_; ((repeat (first | simp (maxSteps := 2000000) (disch := omega) only [go_sem, ↓reduceIte, Nat.reduceEqDiff, Nat.reduceAdd, Nat.reduceMul, Nat.reduceSub, Int.reduceToNat, Int.reduceAdd, Int.reduceSub, Int.reduceMul, Int.reduceNeg] | with_reducible refine vIf_t ?_ | with_reducible refine vIf_f ?_)); all_goals (try simp); all_goals (try omega)); done)))
        · have ek : k = c.length := by omega
          subst ek
          rw [hf]
          by_cases o1 : one = 0
          · have d7 : (one == 0) = true := by rw [o1]; rfl
            (repeat (first | simp (maxSteps := 2000000) (disch := omega) only [go_sem, ↓reduceIte, Nat.reduceEqDiff, Nat.reduceAdd, Nat.reduceMul, Nat.reduceSub, Int.reduceToNat, Int.reduceAdd, Int.reduceSub, Int.reduceMul, Int.reduceNeg, d7] | with_reducible refine vIf_t ?_ | with_reducible refine vIf_f ?_))
            refine againF (st + 1) (by omega) (by omega) (by (first | (refine leF_s ?_; ((repeat (first | simp (maxSteps := 2000000) (disch := omega) only [go_sem, ↓reduceIte, Nat.reduceEqDiff, Nat.reduceAdd, Nat.reduceMul, Nat.reduceSub, Int.reduceToNat, Int.reduceAdd, Int.reduceSub, Int.reduceMul, Int.reduceNeg] | with_reducible refine vIf_t ?_ | with_reducible refine vIf_f ?_)); all_goals (try simp); all_goals (try omega)); done) | (refine leF_p ?_; ((repeat (first | simp (maxSteps := 2000000) (disch := omega) only [go_sem, ↓reduceIte, Nat.reduceEqDiff, Nat.reduceAdd, Nat.reduceMul, Nat.reduceSub, Int.reduceToNat, Int.reduceAdd, Int.reduceSub, Int.reduceMul, Int.reduceNeg] | with_reducible refine vIf_t ?_ | with_reducible refine vIf_f ?_)); all_goals (try simp); all_goals (try omega)); done)))
          · have d7 : (one == 0) = false := by rw [beq_eq_false_iff_ne]; exact o1
            (repeat (first | simp (maxSteps := 2000000) (disch := omega) only [go_sem, ↓reduceIte, Nat.reduceEqDiff, Nat.reduceAdd, Nat.reduceMul, Nat.reduceSub, Int.reduceToNat, Int.reduceAdd, Int.reduceSub, Int.reduceMul, Int.reduceNeg, d7] | with_reducible refine vIf_t ?_ | with_reducible refine vIf_f ?_))
            refine againF (st + 1) (by omega) (by omega) (by (first | (refine leF_s ?_; ((repeat (first | simp (maxSteps := 2000000) (disch := omega) only [go_sem, ↓reduceIte, Nat.reduceEqDiff, Nat.reduceAdd, Nat.reduceMul, Nat.reduceSub, Int.reduceToNat, Int.reduceAdd, Int.reduceSub, Int.reduceMul, Int.reduceNeg] | with_reducible refine vIf_t ?_ | with_reducible refine vIf_f ?_)); all_goals (try simp); all_goals (try omega)); done) | (refine leF_p ?_; ((repeat (first | simp (maxSteps := 2000000) (disch := omega) only [go_sem, ↓reduceIte, Nat.reduceEqDiff, Nat.reduceAdd, Nat.reduceMul, Nat.reduceSub, Int.reduceToNat, Int.reduceAdd, Int.reduceSub, Int.reduceMul, Int.reduceNeg] | with_reducible refine vIf_t ?_ | with_reducible refine vIf_f ?_)); all_goals (try simp); all_goals (try omega)); done)))
      · (repeat (first | simp (maxSteps := 2000000) (disch := omega) only [go_sem, ↓reduceIte, Nat.reduceEqDiff, Nat.reduceAdd, Nat.reduceMul, Nat.reduceSub, Int.reduceToNat, Int.reduceAdd, Int.reduceSub, Int.reduceMul, Int.reduceNeg] | with_reducible refine vIf_t ?_ | with_reducible refine vIf_f ?_))
        refine againF (i + 1) (by omega) (by omega) (by (first | (refine leF_s ?_; ((repeat (first | simp (maxSteps := 2000000) (disch := omega) only [go_sem, ↓reduceIte, Nat.reduceEqDiff, Nat.reduceAdd, Nat.reduceMul, Nat.reduceSub, Int.reduceToNat, Int.reduceAdd, Int.reduceSub, Int.reduceMul, Int.reduceNeg] | with_reducible refine vIf_t ?_ | with_reducible refine vIf_f ?_)); all_goals (try simp); all_goals (try omega)); done) | (refine leF_p ?_; ((repeat (first | simp (maxSteps := 2000000) (disch := omega) only [go_sem, ↓reduceIte, Nat.reduceEqDiff, Nat.reduceAdd, Nat.reduceMul, Nat.reduceSub, Int.reduceToNat, Int.reduceAdd, Int.reduceSub, Int.reduceMul, Int.reduceNeg] | with_reducible refine vIf_t ?_ | with_reducible refine vIf_f ?_)); all_goals (try simp); all_goals (try omega)); done)))
  · (repeat (first | simp (maxSteps := 2000000) (disch := omega) only [go_sem, ↓reduceIte, Nat.reduceEqDiff, Nat.reduceAdd, Nat.reduceMul, Nat.reduceSub, Int.reduceToNat, Int.reduceAdd, Int.reduceSub, Int.reduceMul, Int.reduceNeg] | with_reducible refine vIf_t ?_ | with_reducible refine vIf_f ?_))
    (refine retK_of ?_; (repeat (first | simp (maxSteps := 2000000) (disch := omega) only [go_sem, ↓reduceIte, Nat.reduceEqDiff, Nat.reduceAdd, Nat.reduceMul, Nat.reduceSub, Int.reduceToNat, Int.reduceAdd, Int.reduceSub, Int.reduceMul, Int.reduceNeg] | with_reducible refine vIf_t ?_ | with_reducible refine vIf_f ?_)))
end Go.Proofs.Ytilocioajpcoiaa

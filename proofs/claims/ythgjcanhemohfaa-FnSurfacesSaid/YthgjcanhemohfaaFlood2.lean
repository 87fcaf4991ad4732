/- lands: floods: the walks -/
import Derived.Test.YthgjcanhemohfaaFlood
set_option linter.unusedVariables false
set_option linter.unusedSimpArgs false
namespace Go.Proofs.Ythgjcanhemohfaa
open Go.AG

theorem bfS_no1 {l : Ld} {lv : Int} {a : Bf} {x : Int} (h : gb a.1 x.toNat = true) : bfS l lv a x = a := by unfold bfS; rw [if_neg (by rw [h]; simp)]
theorem bfS_no2 {l : Ld} {lv : Int} {a : Bf} {x : Int} (h : ¬ gi l.hs x.toNat < lv) : bfS l lv a x = a := if_neg (fun g => h g.2)
theorem bfS_yes {l : Ld} {lv : Int} {a : Bf} {x : Int} (h1 : gb a.1 x.toNat = false) (h2 : gi l.hs x.toNat < lv) : bfS l lv a x = (a.1.set x.toNat true, a.2 ++ [x]) := if_pos ⟨h1, h2⟩
theorem bfS_mono (l : Ld) (lv : Int) (a : Bf) (x : Int) : a.2.length ≤ (bfS l lv a x).2.length := by
  unfold bfS; split <;> simp
theorem bfR_mono (l : Ld) (lv : Int) (xs : List Int) : ∀ a : Bf, a.2.length ≤ (bfR l lv a xs).2.length := by
  induction xs with
  | nil => intro a; exact Nat.le_refl _
  | cons x xs ih => intro a; exact Nat.le_trans (bfS_mono l lv a x) (ih (bfS l lv a x))
theorem bfK_mono {l : Ld} {lv : Int} {s : List Bool} {c : Int} {i : Nat} (h : i < (bfK l lv s c i).2.length) : i + 1 ≤ (bfK l lv s c (i + 1)).2.length := by
  show i + 1 ≤ (if i < (bfK l lv s c i).2.length then _ else _ : Bf).2.length
  rw [if_pos h]
  have := bfR_mono l lv (near l (gi (bfK l lv s c i).2 i)) (bfK l lv s c i)
  omega
/-- facts of the state behind k neighbours of the i-th cell -/
theorem bfR_at {l : Ld} {lv : Int} {s : List Bool} {c : Int} (hok : okL l = true) (hc : inC l c) (hs : s.length = l.hs.length) (i : Nat) (hi : i < (bfK l lv s c i).2.length) (k : Nat) :
    (bfR l lv (bfK l lv s c i) ((near l (gi (bfK l lv s c i).2 i)).take k)).1.length = l.hs.length ∧ (bfR l lv (bfK l lv s c i) ((near l (gi (bfK l lv s c i).2 i)).take k)).2.length ≤ l.hs.length + 1 := by
  have ih := bfK_ok (lv := lv) hok hc hs i
  have h := bfR_ok (lv := lv) ((near l (gi (bfK l lv s c i).2 i)).take k) ih (fun x hx => near_in l hok _ (ih.ins _ (gi_mem _ _ hi)) x (List.mem_of_mem_take hx))
  have h1 := h.cnt
  have h2 := cF_le (s.set c.toNat true)
  simp only [List.length_set] at h2
  exact ⟨h.len, by omega⟩
set_option maxRecDepth 100000 in
set_option maxHeartbeats 8000000 in
theorem l03Part_ok (l : Ld) (lv c : Int) (s : List Bool) (hok : okL l = true) (hc : inC l c) (hs : s.length = l.hs.length) :
    ACalls Try.prog 97 [.ip (lC l) 0, I lv, I c, .ref 0 0 s.length] [some ⟨1, bls s⟩] (fun r o => r = I (bfE l lv s c).2.length ∧ o = [some ⟨1, bls (bfE l lv s c).1⟩]) := by
  refine ACalls.of_vc Try.func97 rfl (by decide) 73 rfl [.tmp 8] rfl (by simp) ?_
  have hcl := Cl.of2 hok hc
  have hfs := hcl.fs
  have hcb : 0 ≤ c ∧ c ≤ (l.hs.length : Int) - 1 := hc
  unfold lC
  (repeat (first | simp (maxSteps := 2000000) (disch := omega) only [go_sem, ↓reduceIte, Nat.reduceEqDiff, Nat.reduceAdd, Nat.reduceMul, Nat.reduceSub, Int.reduceToNat, Int.reduceAdd, Int.reduceSub, Int.reduceMul, Int.reduceNeg] | with_reducible refine vIf_t ?_ | with_reducible refine vIf_f ?_))
  refine vcLoop_inv (fun i : Nat => i ≤ (bfK l lv s c i).2.length) (fun i => ⟨73, 1, [(9, .ref 1 0 (bfK l lv s c i).2.length), (3, .ref 0 0 s.length), (1, I lv), (0, .ip (lC l) 0), (10, I i)], [some ⟨1, bls (bfK l lv s c i).1⟩, oI (bfK l lv s c i).2]⟩) (fun i => l.hs.length + 2 - i) 0 (by simp [bfK]) (by (repeat (first | simp (maxSteps := 2000000) (disch := omega) only [go_sem, ↓reduceIte, Nat.reduceEqDiff, Nat.reduceAdd, Nat.reduceMul, Nat.reduceSub, Int.reduceToNat, Int.reduceAdd, Int.reduceSub, Int.reduceMul, Int.reduceNeg, lC, bfK] | with_reducible refine vIf_t ?_ | with_reducible refine vIf_f ?_)); all_goals (try simp)) ?_
  intro i hi
  obtain ⟨hlL, hlS⟩ := bfK_len (lv := lv) hok hc hs i
  have hin := (bfK_ok (lv := lv) hok hc hs i).ins
  unfold lC oI
  (repeat (first | simp (maxSteps := 2000000) (disch := omega) only [go_sem, ↓reduceIte, Nat.reduceEqDiff, Nat.reduceAdd, Nat.reduceMul, Nat.reduceSub, Int.reduceToNat, Int.reduceAdd, Int.reduceSub, Int.reduceMul, Int.reduceNeg] | with_reducible refine vIf_t ?_ | with_reducible refine vIf_f ?_))
  refine vIf_dec (fun h1 => ?_) (fun h1 => ?_)
  · have hil : i < (bfK l lv s c i).2.length := by omega
    have hat := bfR_at (lv := lv) hok hc hs i hil
    have hci := hin _ (gi_mem _ _ hil)
    have hn := nearS_ok l (gi (bfK l lv s c i).2 i) (Cl.of2 hok hci)
    have hnl := nearK_len l (gi (bfK l lv s c i).2 i) 4
    have hnin := near_in l hok _ hci
    have hstep : bfK l lv s c (i + 1) = bfR l lv (bfK l lv s c i) (near l (gi (bfK l lv s c i).2 i)) := by
      show (if i < (bfK l lv s c i).2.length then _ else _) = _
      rw [if_pos hil]
    unfold lC at hn
    (repeat (first | simp (maxSteps := 2000000) (disch := omega) only [go_sem, ↓reduceIte, Nat.reduceEqDiff, Nat.reduceAdd, Nat.reduceMul, Nat.reduceSub, Int.reduceToNat, Int.reduceAdd, Int.reduceSub, Int.reduceMul, Int.reduceNeg] | with_reducible refine vIf_t ?_ | with_reducible refine vIf_f ?_))
    (refine vCallX_of ?_; (repeat (first | simp (maxSteps := 2000000) (disch := omega) only [go_sem, ↓reduceIte, Nat.reduceEqDiff, Nat.reduceAdd, Nat.reduceMul, Nat.reduceSub, Int.reduceToNat, Int.reduceAdd, Int.reduceSub, Int.reduceMul, Int.reduceNeg] | with_reducible refine vIf_t ?_ | with_reducible refine vIf_f ?_)); refine vCall_eq (hn) (by simp (disch := omega) only [go_sem, Nat.reduceAdd]) rfl (by first | exact Or.inl rfl | exact Or.inr ⟨rfl, rfl⟩ | (apply Or.inr; simp only [go_sem])) ?_; (repeat (first | simp (maxSteps := 2000000) (disch := omega) only [go_sem, ↓reduceIte, Nat.reduceEqDiff, Nat.reduceAdd, Nat.reduceMul, Nat.reduceSub, Int.reduceToNat, Int.reduceAdd, Int.reduceSub, Int.reduceMul, Int.reduceNeg] | with_reducible refine vIf_t ?_ | with_reducible refine vIf_f ?_)))
    obtain ⟨a, ha⟩ : ∃ a, a = bfK l lv s c i := ⟨_, rfl⟩
    simp only [← ha] at hat hnin hstep hnl ⊢
    obtain ⟨xs, hxs⟩ : ∃ xs, xs = near l (gi a.2 i) := ⟨_, rfl⟩
    have hxl : xs.length ≤ 4 := by rw [hxs]; exact hnl
    simp only [← hxs] at hat hnin hstep ⊢
    refine vcLoop_inv (fun k : Nat => k ≤ xs.length) (fun k => ⟨73, 1, [(12, I k), (11, .ref 2 0 xs.length), (9, .ref 1 0 (bfR l lv a (xs.take k)).2.length), (3, .ref 0 0 s.length), (1, I lv), (0, .ip (lC l) 0), (10, I i)], [some ⟨1, bls (bfR l lv a (xs.take k)).1⟩, oI (bfR l lv a (xs.take k)).2, oI xs]⟩) (fun k => xs.length - k) 0 (by omega) (by (repeat (first | simp (maxSteps := 2000000) (disch := omega) only [go_sem, ↓reduceIte, Nat.reduceEqDiff, Nat.reduceAdd, Nat.reduceMul, Nat.reduceSub, Int.reduceToNat, Int.reduceAdd, Int.reduceSub, Int.reduceMul, Int.reduceNeg, lC, bfR] | with_reducible refine vIf_t ?_ | with_reducible refine vIf_f ?_)); all_goals (try simp)) ?_
    intro k hk
    obtain ⟨hbl, hbL⟩ := hat k
    obtain ⟨b, hb⟩ : ∃ b, b = bfR l lv a (xs.take k) := ⟨_, rfl⟩
    unfold lC oI
    simp only [← hb] at hbl hbL ⊢
    (repeat (first | simp (maxSteps := 2000000) (disch := omega) only [go_sem, ↓reduceIte, Nat.reduceEqDiff, Nat.reduceAdd, Nat.reduceMul, Nat.reduceSub, Int.reduceToNat, Int.reduceAdd, Int.reduceSub, Int.reduceMul, Int.reduceNeg] | with_reducible refine vIf_t ?_ | with_reducible refine vIf_f ?_))
    refine vIf_dec (fun h2 => ?_) (fun h2 => ?_)
    · have hkl : k < xs.length := by omega
      have hx : inC l (gi xs k) := hnin _ (gi_mem _ _ hkl)
      have hxb : 0 ≤ gi xs k ∧ gi xs k ≤ (l.hs.length : Int) - 1 := hx
      have e := bfR_snoc l lv a xs k hkl
      rw [← hb] at e
      (repeat (first | simp (maxSteps := 2000000) (disch := omega) only [go_sem, ↓reduceIte, Nat.reduceEqDiff, Nat.reduceAdd, Nat.reduceMul, Nat.reduceSub, Int.reduceToNat, Int.reduceAdd, Int.reduceSub, Int.reduceMul, Int.reduceNeg] | with_reducible refine vIf_t ?_ | with_reducible refine vIf_f ?_))
      (refine vDraw_of mixed (by kernel_rfl) ?_; (repeat (first | simp (maxSteps := 2000000) (disch := omega) only [go_sem, ↓reduceIte, Nat.reduceEqDiff, Nat.reduceAdd, Nat.reduceMul, Nat.reduceSub, Int.reduceToNat, Int.reduceAdd, Int.reduceSub, Int.reduceMul, Int.reduceNeg] | with_reducible refine vIf_t ?_ | with_reducible refine vIf_f ?_)))
      cases hg : gb b.1 (gi xs k).toNat with
      | true =>
        rw [bfS_no1 hg] at e
        (repeat (first | simp (maxSteps := 2000000) (disch := omega) only [go_sem, ↓reduceIte, Nat.reduceEqDiff, Nat.reduceAdd, Nat.reduceMul, Nat.reduceSub, Int.reduceToNat, Int.reduceAdd, Int.reduceSub, Int.reduceMul, Int.reduceNeg, hg] | with_reducible refine vIf_t ?_ | with_reducible refine vIf_f ?_))
        refine again (k + 1) (by omega) (by omega) ?_
        rw [e]
        (repeat (first | simp (maxSteps := 2000000) (disch := omega) only [go_sem, ↓reduceIte, Nat.reduceEqDiff, Nat.reduceAdd, Nat.reduceMul, Nat.reduceSub, Int.reduceToNat, Int.reduceAdd, Int.reduceSub, Int.reduceMul, Int.reduceNeg, lC] | with_reducible refine vIf_t ?_ | with_reducible refine vIf_f ?_))
        omega
      | false =>
        (repeat (first | simp (maxSteps := 2000000) (disch := omega) only [go_sem, ↓reduceIte, Nat.reduceEqDiff, Nat.reduceAdd, Nat.reduceMul, Nat.reduceSub, Int.reduceToNat, Int.reduceAdd, Int.reduceSub, Int.reduceMul, Int.reduceNeg, hg] | with_reducible refine vIf_t ?_ | with_reducible refine vIf_f ?_))
        refine vIf_dec (fun h3 => ?_) (fun h3 => ?_)
        · rw [bfS_yes hg h3] at e
          (repeat (first | simp (maxSteps := 2000000) (disch := omega) only [go_sem, ↓reduceIte, Nat.reduceEqDiff, Nat.reduceAdd, Nat.reduceMul, Nat.reduceSub, Int.reduceToNat, Int.reduceAdd, Int.reduceSub, Int.reduceMul, Int.reduceNeg] | with_reducible refine vIf_t ?_ | with_reducible refine vIf_f ?_))
          refine again (k + 1) (by omega) (by omega) ?_
          rw [e]
          (repeat (first | simp (maxSteps := 2000000) (disch := omega) only [go_sem, ↓reduceIte, Nat.reduceEqDiff, Nat.reduceAdd, Nat.reduceMul, Nat.reduceSub, Int.reduceToNat, Int.reduceAdd, Int.reduceSub, Int.reduceMul, Int.reduceNeg, lC] | with_reducible refine vIf_t ?_ | with_reducible refine vIf_f ?_))
          omega
        · rw [bfS_no2 h3] at e
          (repeat (first | simp (maxSteps := 2000000) (disch := omega) only [go_sem, ↓reduceIte, Nat.reduceEqDiff, Nat.reduceAdd, Nat.reduceMul, Nat.reduceSub, Int.reduceToNat, Int.reduceAdd, Int.reduceSub, Int.reduceMul, Int.reduceNeg] | with_reducible refine vIf_t ?_ | with_reducible refine vIf_f ?_))
          refine again (k + 1) (by omega) (by omega) ?_
          rw [e]
          (repeat (first | simp (maxSteps := 2000000) (disch := omega) only [go_sem, ↓reduceIte, Nat.reduceEqDiff, Nat.reduceAdd, Nat.reduceMul, Nat.reduceSub, Int.reduceToNat, Int.reduceAdd, Int.reduceSub, Int.reduceMul, Int.reduceNeg, lC] | with_reducible refine vIf_t ?_ | with_reducible refine vIf_f ?_))
          omega
    · have e : k = xs.length := by omega
      subst e
      rw [List.take_length, ← hstep] at hb
      (repeat (first | simp (maxSteps := 2000000) (disch := omega) only [go_sem, ↓reduceIte, Nat.reduceEqDiff, Nat.reduceAdd, Nat.reduceMul, Nat.reduceSub, Int.reduceToNat, Int.reduceAdd, Int.reduceSub, Int.reduceMul, Int.reduceNeg] | with_reducible refine vIf_t ?_ | with_reducible refine vIf_f ?_))
      refine again (i + 1) ?_ (by omega) ?_
      · exact bfK_mono hil
      · rw [← hb]
        (repeat (first | simp (maxSteps := 2000000) (disch := omega) only [go_sem, ↓reduceIte, Nat.reduceEqDiff, Nat.reduceAdd, Nat.reduceMul, Nat.reduceSub, Int.reduceToNat, Int.reduceAdd, Int.reduceSub, Int.reduceMul, Int.reduceNeg, lC] | with_reducible refine vIf_t ?_ | with_reducible refine vIf_f ?_))
        omega
  · have e := bfE_eq hok hc hs (i := i) (lv := lv) (by omega)
    (repeat (first | simp (maxSteps := 2000000) (disch := omega) only [go_sem, ↓reduceIte, Nat.reduceEqDiff, Nat.reduceAdd, Nat.reduceMul, Nat.reduceSub, Int.reduceToNat, Int.reduceAdd, Int.reduceSub, Int.reduceMul, Int.reduceNeg] | with_reducible refine vIf_t ?_ | with_reducible refine vIf_f ?_))
    (refine retK_of ?_; (repeat (first | simp (maxSteps := 2000000) (disch := omega) only [go_sem, ↓reduceIte, Nat.reduceEqDiff, Nat.reduceAdd, Nat.reduceMul, Nat.reduceSub, Int.reduceToNat, Int.reduceAdd, Int.reduceSub, Int.reduceMul, Int.reduceNeg] | with_reducible refine vIf_t ?_ | with_reducible refine vIf_f ?_)))
    rw [e]
    all_goals (try simp)

/-- which cells are under water -/
def wet (l : Ld) (c lv : Int) : List Bool := if gi l.hs c.toNat < lv then (bfE l lv (List.replicate l.hs.length false) c).1 else List.replicate l.hs.length false
set_option maxHeartbeats 4000000 in
theorem l11Wet_ok (l : Ld) (c lv : Int) (hok : okL l = true) (hc : inC l c) :
    ACalls Try.prog 122 [.ip (lC l) 0, I c, I lv] [] (fun r o => r = .ref 0 0 l.hs.length ∧ o = [some ⟨1, bls (wet l c lv)⟩]) := by
  refine ACalls.of_vc Try.func122 rfl (by decide) 29 rfl [.tmp 6] rfl (by simp) ?_
  have hcl := Cl.of2 hok hc
  have hfs := hcl.fs
  have hcb : 0 ≤ c ∧ c ≤ (l.hs.length : Int) - 1 := hc
  unfold lC
  (repeat (first | simp (maxSteps := 2000000) (disch := omega) only [go_sem, ↓reduceIte, Nat.reduceEqDiff, Nat.reduceAdd, Nat.reduceMul, Nat.reduceSub, Int.reduceToNat, Int.reduceAdd, Int.reduceSub, Int.reduceMul, Int.reduceNeg] | with_reducible refine vIf_t ?_ | with_reducible refine vIf_f ?_))
  refine vIf_dec (fun h => ?_) (fun h => ?_)
  · have hp := l03Part_ok l lv c (List.replicate l.hs.length false) hok hc (by simp)
    unfold lC at hp
    (repeat (first | simp (maxSteps := 2000000) (disch := omega) only [go_sem, ↓reduceIte, Nat.reduceEqDiff, Nat.reduceAdd, Nat.reduceMul, Nat.reduceSub, Int.reduceToNat, Int.reduceAdd, Int.reduceSub, Int.reduceMul, Int.reduceNeg] | with_reducible refine vIf_t ?_ | with_reducible refine vIf_f ?_))
    (refine vCallX_io [0] ?_; (repeat (first | simp (maxSteps := 2000000) (disch := omega) only [go_sem, ↓reduceIte, Nat.reduceEqDiff, Nat.reduceAdd, Nat.reduceMul, Nat.reduceSub, Int.reduceToNat, Int.reduceAdd, Int.reduceSub, Int.reduceMul, Int.reduceNeg] | with_reducible refine vIf_t ?_ | with_reducible refine vIf_f ?_)); refine vCallIO_eq (hp) (by simp (disch := omega) only [go_sem, Nat.reduceAdd, Nat.reduceEqDiff]) (by simp (disch := omega) only [go_sem, Nat.reduceAdd, Nat.reduceEqDiff]) (by first | rfl | (simp (disch := omega) only [go_sem, Nat.reduceAdd, Nat.reduceEqDiff])) (by first | rfl | (simp (disch := omega) only [go_sem, Nat.reduceAdd, Nat.reduceEqDiff])) (by first | rfl | (simp (disch := omega) only [go_sem, Nat.reduceAdd, Nat.reduceEqDiff])) (by first | (simp (disch := omega) only [go_sem, Nat.reduceAdd, Nat.reduceEqDiff]) | skip) ?_; (repeat (first | simp (maxSteps := 2000000) (disch := omega) only [go_sem, ↓reduceIte, Nat.reduceEqDiff, Nat.reduceAdd, Nat.reduceMul, Nat.reduceSub, Int.reduceToNat, Int.reduceAdd, Int.reduceSub, Int.reduceMul, Int.reduceNeg] | with_reducible refine vIf_t ?_ | with_reducible refine vIf_f ?_)))
    (refine retK_of ?_; (repeat (first | simp (maxSteps := 2000000) (disch := omega) only [go_sem, ↓reduceIte, Nat.reduceEqDiff, Nat.reduceAdd, Nat.reduceMul, Nat.reduceSub, Int.reduceToNat, Int.reduceAdd, Int.reduceSub, Int.reduceMul, Int.reduceNeg] | with_reducible refine vIf_t ?_ | with_reducible refine vIf_f ?_)))
    rw [wet, if_pos h]
  · (repeat (first | simp (maxSteps := 2000000) (disch := omega) only [go_sem, ↓reduceIte, Nat.reduceEqDiff, Nat.reduceAdd, Nat.reduceMul, Nat.reduceSub, Int.reduceToNat, Int.reduceAdd, Int.reduceSub, Int.reduceMul, Int.reduceNeg] | with_reducible refine vIf_t ?_ | with_reducible refine vIf_f ?_))
    (refine retK_of ?_; (repeat (first | simp (maxSteps := 2000000) (disch := omega) only [go_sem, ↓reduceIte, Nat.reduceEqDiff, Nat.reduceAdd, Nat.reduceMul, Nat.reduceSub, Int.reduceToNat, Int.reduceAdd, Int.reduceSub, Int.reduceMul, Int.reduceNeg] | with_reducible refine vIf_t ?_ | with_reducible refine vIf_f ?_)))
    rw [wet, if_neg h]
end Go.Proofs.Ythgjcanhemohfaa

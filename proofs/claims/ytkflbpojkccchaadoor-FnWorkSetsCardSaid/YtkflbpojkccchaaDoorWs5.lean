/- tasks: the drawn ones -/
import Derived.Test.YtkflbpojkccchaaDoorWs3
import Derived.Test.YtkflbpojkccchaaDoorSrc2
set_option linter.unusedVariables false
set_option linter.unusedSimpArgs false
namespace Go.Proofs.YtkflbpojkccchaaDoor
open Go.AG

/-- rows of cells that read as tasks -/
structure TkD (cs : List V) (ts : List Tk) : Prop where
  le : LeIL cs (cTk ts)
  im : V.immL cs = true
  on : V.oneL cs = true
  nr : V.norefL cs = true
  n : ts.length ≤ 7
  x : TkX ts
theorem immL_app : ∀ a b : List V, V.immL (a ++ b) = (V.immL a && V.immL b)
  | [], b => by simp [V.immL]
  | x :: r, b => by simp only [List.cons_append, V.immL, immL_app r b, Bool.and_assoc]
theorem oneL_app : ∀ a b : List V, V.oneL (a ++ b) = (V.oneL a && V.oneL b)
  | [], b => by simp [V.oneL]
  | x :: r, b => by simp only [List.cons_append, V.oneL, oneL_app r b, Bool.and_assoc]
theorem norefL_app : ∀ a b : List V, V.norefL (a ++ b) = (V.norefL a && V.norefL b)
  | [], b => by simp [V.norefL]
  | x :: r, b => by simp only [List.cons_append, V.norefL, norefL_app r b, Bool.and_assoc]
theorem gTk_app_l' (ts : List Tk) (t : Tk) (i : Nat) (h : i < ts.length) : gTk (ts ++ [t]) i = gTk ts i := gTk_app_l ts [t] i h
theorem gTk_last (ts : List Tk) (t : Tk) : gTk (ts ++ [t]) ts.length = t := by rw [gTk_app_r _ _ _ (Nat.le_refl _), Nat.sub_self]; rfl
theorem TkX.snoc {ts : List Tk} (X : TkX ts) (hn : ts.length ≤ 7) (t : Tk) (h1 : 1 ≤ t.dy ∧ t.dy ≤ 1000) (h2 : 0 ≤ t.co ∧ t.co ≤ 1000000) (h3 : 0 ≤ t.cl ∧ t.cl ≤ 10000) (h4 : t.af.length ≤ 12) (h5 : risesB t.af 0 ((ts.length : Int) - 1) = true) : TkX (ts ++ [t]) where
  n := by simp; omega
  e := fun i hi => by
    simp only [List.length_append, List.length_cons, List.length_nil] at hi
    by_cases e : i < ts.length
    · have := X.e i e
      exact ⟨by rw [gTk_app_l' _ _ _ e]; exact this.d, by rw [gTk_app_l' _ _ _ e]; exact this.c, by rw [gTk_app_l' _ _ _ e]; exact this.y, by rw [gTk_app_l' _ _ _ e]; exact this.n, by rw [gTk_app_l' _ _ _ e]; exact this.r⟩
    · have : i = ts.length := by omega
      subst this
      exact ⟨by rw [gTk_last]; exact h1, by rw [gTk_last]; exact h2, by rw [gTk_last]; exact h3, by rw [gTk_last]; exact h4, by rw [gTk_last]; exact h5⟩
theorem TkD.snoc {cs : List V} {ts : List Tk} (h : TkD cs ts) (hn : ts.length ≤ 6) (a b c : Int) (x : V) (xs : List Int) (hx : (x = nilS ∧ xs = []) ∨ x = .sl xs.length (ints xs)) (h1 : 1 ≤ a ∧ a ≤ 1000) (h2 : 0 ≤ b ∧ b ≤ 1000000) (h3 : 0 ≤ c ∧ c ≤ 10000) (h4 : xs.length ≤ 12)
    (h5 : risesB xs 0 ((ts.length : Int) - 1) = true) : TkD (cs ++ [I a, I b, I c, x]) (ts ++ [⟨a, b, c, xs⟩]) where
  le := by
    rw [← cTk_append, cTk_one]
    refine h.le.app ?_
    unfold Tk.cells
    refine .cons (.refl _) (.cons (.refl _) (.cons (.refl _) (.cons ?_ .nil)))
    rcases hx with ⟨rfl, rfl⟩ | rfl
    · exact .nil
    · exact .refl _
  im := by rw [immL_app, h.im]; rcases hx with ⟨rfl, rfl⟩ | rfl <;> simp [V.immL, V.imm, imm_ints, nilS]
  on := by rw [oneL_app, h.on]; rcases hx with ⟨rfl, rfl⟩ | rfl <;> simp [V.oneL, V.one, nilS, Value.oneCell']
  nr := by rw [norefL_app, h.nr]; rcases hx with ⟨rfl, rfl⟩ | rfl <;> simp [V.norefL, V.noref, nilS]
  n := by simp; omega
  x := h.x.snoc h.n ⟨a, b, c, xs⟩ h1 h2 h3 h4 h5
theorem TkD.len {cs : List V} {ts : List Tk} (h : TkD cs ts) : cs.length = ts.length * 4 := by rw [h.le.get.1, length_cTk]
theorem TkD.take {cs : List V} {ts : List Tk} (h : TkD cs ts) : cs.take (ts.length * 4) = cs := List.take_of_length_le (by rw [h.len]; exact Nat.le_refl _)
theorem TkD.nil : TkD [] [] := ⟨.nil, rfl, rfl, rfl, by simp, by simp, fun i hi => absurd hi (by simp)⟩
theorem sel_snoc_t (i : Nat) (f : Nat → Bool) : ∃ g, selN i f ++ [i] = selN (i + 1) g := ⟨fun j => if j = i then true else f j, by
  rw [selN_succ, if_pos (by simp), selN_congr (n := i) (f := f) (g := fun j => if j = i then true else f j) fun j hj => by rw [if_neg (by omega)]]⟩
theorem sel_snoc_f (i : Nat) (f : Nat → Bool) : ∃ g, selN i f = selN (i + 1) g := ⟨fun j => if j = i then false else f j, by
  rw [selN_succ, if_neg (by simp), selN_congr (n := i) (f := f) (g := fun j => if j = i then false else f j) fun j hj => by rw [if_neg (by omega)]]⟩
mutual
theorem ren_norefW (g : Nat → Nat) (x : V) (h : x.noref = true) : x.ren g = x := by
  cases x with
  | fn _ caps => simp only [V.noref] at h; simp only [V.ren]; rw [renL_norefW g caps h]
  | agg xs => simp only [V.noref] at h; simp only [V.ren]; rw [renL_norefW g xs h]
  | tup xs => simp only [V.noref] at h; simp only [V.ren]; rw [renL_norefW g xs h]
  | ref => simp [V.noref] at h
  | ptr => simp [V.noref] at h
  | _ => rfl
theorem renL_norefW (g : Nat → Nat) (xs : List V) (h : V.norefL xs = true) : V.renL g xs = xs := by
  cases xs with
  | nil => rfl
  | cons x xs =>
    simp only [V.norefL, Bool.and_eq_true] at h
    simp only [V.renL]
    rw [ren_norefW g x h.1, renL_norefW g xs h.2]
end
@[local go_sem] theorem reps_1L (z : List V) : reps 1 z = z := by simp [reps]
@[local go_sem] theorem wr_full4 (a b c d e f g h : V) : wr [a, b, c, d] 0 [e, f, g, h] = [e, f, g, h] := _root_.id rfl
set_option maxRecDepth 20000 in
set_option maxHeartbeats 8000000 in
theorem l22Draw_e {code : List Int} (g : SrOk code) (σ : Sr) (hp : σ.pos ≤ 100000000) : ACalls Tryd.prog 17 [.ptr 0 0] [srO code σ]
    (fun r o => ∃ (cs : List V) (ts : List Tk) (σ' : Sr), r = .ref 1 0 ts.length ∧ o = [srO code σ', some ⟨4, cs⟩] ∧ TkD cs ts ∧ σ'.pos ≤ σ.pos + 1000) := by
  refine ACalls.of_vc Tryd.func17 rfl (by decide) 44 rfl [.tmp 2] rfl (by simp) ?_
  (repeat (first | simp (maxSteps := 2000000) (disch := omega) only [go_sem, ↓reduceIte, Nat.reduceEqDiff, Nat.reduceAdd, Nat.reduceMul, Nat.reduceSub, Int.reduceToNat, Int.reduceAdd, Int.reduceSub, Int.reduceMul, Int.reduceNeg] | with_reducible refine vIf_t ?_ | with_reducible refine vIf_f ?_))
  (refine vCallX_io [0] ?_; (repeat (first | simp (maxSteps := 2000000) (disch := omega) only [go_sem, ↓reduceIte, Nat.reduceEqDiff, Nat.reduceAdd, Nat.reduceMul, Nat.reduceSub, Int.reduceToNat, Int.reduceAdd, Int.reduceSub, Int.reduceMul, Int.reduceNeg] | with_reducible refine vIf_t ?_ | with_reducible refine vIf_f ?_)); refine vCallIO_ex (pick_e g 8 σ (by omega)) (by simp (disch := omega) only [go_sem, Nat.reduceAdd, Nat.reduceEqDiff]) (by simp (disch := omega) only [go_sem, Nat.reduceAdd, Nat.reduceEqDiff]) (by first | rfl | (simp (disch := omega) only [go_sem, Nat.reduceAdd, Nat.reduceEqDiff])) (by first | rfl | (simp (disch := omega) only [go_sem, Nat.reduceAdd, Nat.reduceEqDiff])) (by first | rfl | (simp (disch := omega) only [go_sem, Nat.reduceAdd, Nat.reduceEqDiff])) ?_); rintro _ _ ⟨v, σ1, rfl, rfl, h1, h2, h3⟩; (refine ⟨by first | (simp (disch := omega) only [go_sem, Nat.reduceAdd, Nat.reduceEqDiff]) | trivial, ?_⟩; (repeat (first | simp (maxSteps := 2000000) (disch := omega) only [go_sem, ↓reduceIte, Nat.reduceEqDiff, Nat.reduceAdd, Nat.reduceMul, Nat.reduceSub, Int.reduceToNat, Int.reduceAdd, Int.reduceSub, Int.reduceMul, Int.reduceNeg] | with_reducible refine vIf_t ?_ | with_reducible refine vIf_f ?_)))
  refine vcLoop_invF (fun x : Int × List V × List Tk × Sr => TkD x.2.1 x.2.2.1 ∧ 0 ≤ x.1 ∧ x.1 + x.2.2.1.length ≤ 7 ∧ x.2.2.2.pos ≤ σ.pos + 2 + 100 * x.2.2.1.length)
    (fun x => ⟨44, 1, [(0, .ptr 0 0), (3, .ref 1 0 x.2.2.1.length), (4, I x.1)], [srO code x.2.2.2, some ⟨4, x.2.1⟩]⟩) (fun x => x.1.toNat) (v, [], [], σ1) ⟨.nil, by omega, by simp; omega, by simp; omega⟩ (by (first | (refine leF_s ?_; ((repeat (first | simp (maxSteps := 2000000) (disch := omega) only [go_sem, ↓reduceIte, Nat.reduceEqDiff, Nat.reduceAdd, Nat.reduceMul, Nat.reduceSub, Int.reduceToNat, Int.reduceAdd, Int.reduceSub, Int.reduceMul, Int.reduceNeg] | with_reducible refine vIf_t ?_ | with_reducible refine vIf_f ?_)); all_goals (try simp); all_goals (try omega)); done) | (refine leF_p ?_; ((repeat (first | simp (maxSteps := 2000000) (disch := omega) only [go_sem, ↓reduceIte, Nat.reduceEqDiff, Nat.reduceAdd, Nat.reduceMul, Nat.reduceSub, Int.reduceToNat, Int.reduceAdd, Int.reduceSub, Int.reduceMul, Int.reduceNeg] | with_reducible refine vIf_t ?_ | with_reducible refine vIf_f ?_)); all_goals (try simp); all_goals (try omega)); done))) ?_
  rintro ⟨k, cs, ts, σ2⟩ ⟨hD, hk0, hk7, hps⟩
  simp only at hD hk0 hk7 hps
  have hlc := hD.len
  have htk := hD.take
  have him := hD.im
  have hon := hD.on
  have hnr := hD.nr
  have hki := fun p => killL_noref p cs hnr
  have hfz := fun f => frzL_noref f cs hnr
  have hrn := fun g => renL_norefW g cs hnr
  (repeat (first | simp (maxSteps := 2000000) (disch := omega) only [go_sem, ↓reduceIte, Nat.reduceEqDiff, Nat.reduceAdd, Nat.reduceMul, Nat.reduceSub, Int.reduceToNat, Int.reduceAdd, Int.reduceSub, Int.reduceMul, Int.reduceNeg] | with_reducible refine vIf_t ?_ | with_reducible refine vIf_f ?_))
  refine vIf_dec (fun h => ?_) (fun h => ?_)
  · (repeat (first | simp (maxSteps := 2000000) (disch := omega) only [go_sem, ↓reduceIte, Nat.reduceEqDiff, Nat.reduceAdd, Nat.reduceMul, Nat.reduceSub, Int.reduceToNat, Int.reduceAdd, Int.reduceSub, Int.reduceMul, Int.reduceNeg] | with_reducible refine vIf_t ?_ | with_reducible refine vIf_f ?_))
    (refine vCallX_io [0] ?_; (repeat (first | simp (maxSteps := 2000000) (disch := omega) only [go_sem, ↓reduceIte, Nat.reduceEqDiff, Nat.reduceAdd, Nat.reduceMul, Nat.reduceSub, Int.reduceToNat, Int.reduceAdd, Int.reduceSub, Int.reduceMul, Int.reduceNeg] | with_reducible refine vIf_t ?_ | with_reducible refine vIf_f ?_)); refine vCallIO_ex (pick_e g 20 σ2 (by omega)) (by simp (disch := omega) only [go_sem, Nat.reduceAdd, Nat.reduceEqDiff]) (by simp (disch := omega) only [go_sem, Nat.reduceAdd, Nat.reduceEqDiff]) (by first | rfl | (simp (disch := omega) only [go_sem, Nat.reduceAdd, Nat.reduceEqDiff])) (by first | rfl | (simp (disch := omega) only [go_sem, Nat.reduceAdd, Nat.reduceEqDiff])) (by first | rfl | (simp (disch := omega) only [go_sem, Nat.reduceAdd, Nat.reduceEqDiff])) ?_); rintro _ _ ⟨v1, σ3, rfl, rfl, a1, a2, a3⟩; (refine ⟨by first | (simp (disch := omega) only [go_sem, Nat.reduceAdd, Nat.reduceEqDiff]) | trivial, ?_⟩; (repeat (first | simp (maxSteps := 2000000) (disch := omega) only [go_sem, ↓reduceIte, Nat.reduceEqDiff, Nat.reduceAdd, Nat.reduceMul, Nat.reduceSub, Int.reduceToNat, Int.reduceAdd, Int.reduceSub, Int.reduceMul, Int.reduceNeg] | with_reducible refine vIf_t ?_ | with_reducible refine vIf_f ?_)))
    (refine vCallX_io [0] ?_; (repeat (first | simp (maxSteps := 2000000) (disch := omega) only [go_sem, ↓reduceIte, Nat.reduceEqDiff, Nat.reduceAdd, Nat.reduceMul, Nat.reduceSub, Int.reduceToNat, Int.reduceAdd, Int.reduceSub, Int.reduceMul, Int.reduceNeg] | with_reducible refine vIf_t ?_ | with_reducible refine vIf_f ?_)); refine vCallIO_ex (pick_e g 30 σ3 (by omega)) (by simp (disch := omega) only [go_sem, Nat.reduceAdd, Nat.reduceEqDiff]) (by simp (disch := omega) only [go_sem, Nat.reduceAdd, Nat.reduceEqDiff]) (by first | rfl | (simp (disch := omega) only [go_sem, Nat.reduceAdd, Nat.reduceEqDiff])) (by first | rfl | (simp (disch := omega) only [go_sem, Nat.reduceAdd, Nat.reduceEqDiff])) (by first | rfl | (simp (disch := omega) only [go_sem, Nat.reduceAdd, Nat.reduceEqDiff])) ?_); rintro _ _ ⟨v2, σ4, rfl, rfl, a4, a5, a6⟩; (refine ⟨by first | (simp (disch := omega) only [go_sem, Nat.reduceAdd, Nat.reduceEqDiff]) | trivial, ?_⟩; (repeat (first | simp (maxSteps := 2000000) (disch := omega) only [go_sem, ↓reduceIte, Nat.reduceEqDiff, Nat.reduceAdd, Nat.reduceMul, Nat.reduceSub, Int.reduceToNat, Int.reduceAdd, Int.reduceSub, Int.reduceMul, Int.reduceNeg] | with_reducible refine vIf_t ?_ | with_reducible refine vIf_f ?_)))
    (refine vCallX_io [0] ?_; (repeat (first | simp (maxSteps := 2000000) (disch := omega) only [go_sem, ↓reduceIte, Nat.reduceEqDiff, Nat.reduceAdd, Nat.reduceMul, Nat.reduceSub, Int.reduceToNat, Int.reduceAdd, Int.reduceSub, Int.reduceMul, Int.reduceNeg] | with_reducible refine vIf_t ?_ | with_reducible refine vIf_f ?_)); refine vCallIO_ex (pick_e g 50 σ4 (by omega)) (by simp (disch := omega) only [go_sem, Nat.reduceAdd, Nat.reduceEqDiff]) (by simp (disch := omega) only [go_sem, Nat.reduceAdd, Nat.reduceEqDiff]) (by first | rfl | (simp (disch := omega) only [go_sem, Nat.reduceAdd, Nat.reduceEqDiff])) (by first | rfl | (simp (disch := omega) only [go_sem, Nat.reduceAdd, Nat.reduceEqDiff])) (by first | rfl | (simp (disch := omega) only [go_sem, Nat.reduceAdd, Nat.reduceEqDiff])) ?_); rintro _ _ ⟨v3, σ5, rfl, rfl, a7, a8, a9⟩; (refine ⟨by first | (simp (disch := omega) only [go_sem, Nat.reduceAdd, Nat.reduceEqDiff]) | trivial, ?_⟩; (repeat (first | simp (maxSteps := 2000000) (disch := omega) only [go_sem, ↓reduceIte, Nat.reduceEqDiff, Nat.reduceAdd, Nat.reduceMul, Nat.reduceSub, Int.reduceToNat, Int.reduceAdd, Int.reduceSub, Int.reduceMul, Int.reduceNeg] | with_reducible refine vIf_t ?_ | with_reducible refine vIf_f ?_)))
    refine vcLoop_invF (fun y : Nat × Option (Nat → Bool) × Sr => y.1 ≤ ts.length ∧ y.2.2.pos ≤ σ5.pos + 2 * y.1)
      (fun y => match y.2.1 with
        | none => ⟨44, 1, [(0, .ptr 0 0), (3, .ref 1 0 ts.length), (4, I k), (5, .ptr 2 0), (6, I y.1)], [srO code y.2.2, some ⟨4, cs⟩, some ⟨4, [I (1 + v1), I (100 * v2), I v3, nilS]⟩]⟩
        | some f => ⟨44, 1, [(0, .ptr 0 0), (3, .ref 1 0 ts.length), (4, I k), (5, .ptr 2 0), (6, I y.1)], [srO code y.2.2, some ⟨4, cs⟩, some ⟨4, [I (1 + v1), I (100 * v2), I v3, .ref 3 0 (selN y.1 f).length]⟩, oI (nI (selN y.1 f))]⟩)
      (fun y => ts.length - y.1) (0, none, σ5) ⟨by simp, by simp⟩ (by refine leF_s ?_; (repeat (first | simp (maxSteps := 2000000) (disch := omega) only [go_sem, ↓reduceIte, Nat.reduceEqDiff, Nat.reduceAdd, Nat.reduceMul, Nat.reduceSub, Int.reduceToNat, Int.reduceAdd, Int.reduceSub, Int.reduceMul, Int.reduceNeg, hnr, hki] | with_reducible refine vIf_t ?_ | with_reducible refine vIf_f ?_)); all_goals (try simp); all_goals (try omega)) ?_
    rintro ⟨i, of, σ6⟩ ⟨hi, hp6⟩
    simp only at hi hp6
    cases of with
    | none =>
      (repeat (first | simp (maxSteps := 2000000) (disch := omega) only [go_sem, ↓reduceIte, Nat.reduceEqDiff, Nat.reduceAdd, Nat.reduceMul, Nat.reduceSub, Int.reduceToNat, Int.reduceAdd, Int.reduceSub, Int.reduceMul, Int.reduceNeg] | with_reducible refine vIf_t ?_ | with_reducible refine vIf_f ?_))
      refine vIf_dec (fun h2 => ?_) (fun h2 => ?_)
      · (repeat (first | simp (maxSteps := 2000000) (disch := omega) only [go_sem, ↓reduceIte, Nat.reduceEqDiff, Nat.reduceAdd, Nat.reduceMul, Nat.reduceSub, Int.reduceToNat, Int.reduceAdd, Int.reduceSub, Int.reduceMul, Int.reduceNeg] | with_reducible refine vIf_t ?_ | with_reducible refine vIf_f ?_))
        (refine vCallX_io [0] ?_; (repeat (first | simp (maxSteps := 2000000) (disch := omega) only [go_sem, ↓reduceIte, Nat.reduceEqDiff, Nat.reduceAdd, Nat.reduceMul, Nat.reduceSub, Int.reduceToNat, Int.reduceAdd, Int.reduceSub, Int.reduceMul, Int.reduceNeg] | with_reducible refine vIf_t ?_ | with_reducible refine vIf_f ?_)); refine vCallIO_ex (one_e g 3 σ6 (by omega)) (by simp (disch := omega) only [go_sem, Nat.reduceAdd, Nat.reduceEqDiff]) (by simp (disch := omega) only [go_sem, Nat.reduceAdd, Nat.reduceEqDiff]) (by first | rfl | (simp (disch := omega) only [go_sem, Nat.reduceAdd, Nat.reduceEqDiff])) (by first | rfl | (simp (disch := omega) only [go_sem, Nat.reduceAdd, Nat.reduceEqDiff])) (by first | rfl | (simp (disch := omega) only [go_sem, Nat.reduceAdd, Nat.reduceEqDiff])) ?_); rintro _ _ ⟨b, σ7, rfl, rfl, a10⟩; (refine ⟨by first | (simp (disch := omega) only [go_sem, Nat.reduceAdd, Nat.reduceEqDiff]) | trivial, ?_⟩; (repeat (first | simp (maxSteps := 2000000) (disch := omega) only [go_sem, ↓reduceIte, Nat.reduceEqDiff, Nat.reduceAdd, Nat.reduceMul, Nat.reduceSub, Int.reduceToNat, Int.reduceAdd, Int.reduceSub, Int.reduceMul, Int.reduceNeg] | with_reducible refine vIf_t ?_ | with_reducible refine vIf_f ?_)))
        refine vIf_bool (fun h3 => ?_) (fun h3 => ?_)
        · (repeat (first | simp (maxSteps := 2000000) (disch := omega) only [go_sem, ↓reduceIte, Nat.reduceEqDiff, Nat.reduceAdd, Nat.reduceMul, Nat.reduceSub, Int.reduceToNat, Int.reduceAdd, Int.reduceSub, Int.reduceMul, Int.reduceNeg] | with_reducible refine vIf_t ?_ | with_reducible refine vIf_f ?_))
          obtain ⟨f', hf'⟩ := sel_snoc_t i (fun _ => false)
          have e0 : selN i (fun _ => false) = [] := by simp [selN]
          rw [e0, List.nil_append] at hf'
          refine againF (i + 1, some f', σ7) ⟨by (try simp only); omega, by (try simp only); omega⟩ (by (try simp only); omega) ?_
          simp only [← hf']
          refine leF_p ?_; (repeat (first | simp (maxSteps := 2000000) (disch := omega) only [go_sem, ↓reduceIte, Nat.reduceEqDiff, Nat.reduceAdd, Nat.reduceMul, Nat.reduceSub, Int.reduceToNat, Int.reduceAdd, Int.reduceSub, Int.reduceMul, Int.reduceNeg, hnr, hki, hrn] | with_reducible refine vIf_t ?_ | with_reducible refine vIf_f ?_))
          all_goals (first | (simp [nI]; done) | skip)
          done
        · (repeat (first | simp (maxSteps := 2000000) (disch := omega) only [go_sem, ↓reduceIte, Nat.reduceEqDiff, Nat.reduceAdd, Nat.reduceMul, Nat.reduceSub, Int.reduceToNat, Int.reduceAdd, Int.reduceSub, Int.reduceMul, Int.reduceNeg] | with_reducible refine vIf_t ?_ | with_reducible refine vIf_f ?_))
          refine againF (i + 1, none, σ7) ⟨by (try simp only); omega, by (try simp only); omega⟩ (by (try simp only); omega) ?_
          refine leF_s ?_; (repeat (first | simp (maxSteps := 2000000) (disch := omega) only [go_sem, ↓reduceIte, Nat.reduceEqDiff, Nat.reduceAdd, Nat.reduceMul, Nat.reduceSub, Int.reduceToNat, Int.reduceAdd, Int.reduceSub, Int.reduceMul, Int.reduceNeg, hnr, hki] | with_reducible refine vIf_t ?_ | with_reducible refine vIf_f ?_))
          all_goals omega
      · (repeat (first | simp (maxSteps := 2000000) (disch := omega) only [go_sem, ↓reduceIte, Nat.reduceEqDiff, Nat.reduceAdd, Nat.reduceMul, Nat.reduceSub, Int.reduceToNat, Int.reduceAdd, Int.reduceSub, Int.reduceMul, Int.reduceNeg, him, hon, htk, hlc] | with_reducible refine vIf_t ?_ | with_reducible refine vIf_f ?_))
        refine againF (k - 1, cs ++ [I (1 + v1), I (100 * v2), I v3, nilS], ts ++ [⟨1 + v1, 100 * v2, v3, []⟩], σ6) ⟨hD.snoc (by omega) _ _ _ _ _ (.inl ⟨rfl, rfl⟩) (by omega) (by omega) (by omega) (by simp) rfl, by omega, by simp; omega, by simp; omega⟩ (by simp only; omega) ?_
        refine leF_s ?_; (repeat (first | simp (maxSteps := 2000000) (disch := omega) only [go_sem, ↓reduceIte, Nat.reduceEqDiff, Nat.reduceAdd, Nat.reduceMul, Nat.reduceSub, Int.reduceToNat, Int.reduceAdd, Int.reduceSub, Int.reduceMul, Int.reduceNeg, hnr, hki] | with_reducible refine vIf_t ?_ | with_reducible refine vIf_f ?_))
        all_goals omega
    | some f =>
      (repeat (first | simp (maxSteps := 2000000) (disch := omega) only [go_sem, ↓reduceIte, Nat.reduceEqDiff, Nat.reduceAdd, Nat.reduceMul, Nat.reduceSub, Int.reduceToNat, Int.reduceAdd, Int.reduceSub, Int.reduceMul, Int.reduceNeg] | with_reducible refine vIf_t ?_ | with_reducible refine vIf_f ?_))
      refine vIf_dec (fun h2 => ?_) (fun h2 => ?_)
      · (repeat (first | simp (maxSteps := 2000000) (disch := omega) only [go_sem, ↓reduceIte, Nat.reduceEqDiff, Nat.reduceAdd, Nat.reduceMul, Nat.reduceSub, Int.reduceToNat, Int.reduceAdd, Int.reduceSub, Int.reduceMul, Int.reduceNeg] | with_reducible refine vIf_t ?_ | with_reducible refine vIf_f ?_))
        (refine vCallX_io [0] ?_; (repeat (first | simp (maxSteps := 2000000) (disch := omega) only [go_sem, ↓reduceIte, Nat.reduceEqDiff, Nat.reduceAdd, Nat.reduceMul, Nat.reduceSub, Int.reduceToNat, Int.reduceAdd, Int.reduceSub, Int.reduceMul, Int.reduceNeg] | with_reducible refine vIf_t ?_ | with_reducible refine vIf_f ?_)); refine vCallIO_ex (one_e g 3 σ6 (by omega)) (by simp (disch := omega) only [go_sem, Nat.reduceAdd, Nat.reduceEqDiff]) (by simp (disch := omega) only [go_sem, Nat.reduceAdd, Nat.reduceEqDiff]) (by first | rfl | (simp (disch := omega) only [go_sem, Nat.reduceAdd, Nat.reduceEqDiff])) (by first | rfl | (simp (disch := omega) only [go_sem, Nat.reduceAdd, Nat.reduceEqDiff])) (by first | rfl | (simp (disch := omega) only [go_sem, Nat.reduceAdd, Nat.reduceEqDiff])) ?_); rintro _ _ ⟨b, σ7, rfl, rfl, a10⟩; (refine ⟨by first | (simp (disch := omega) only [go_sem, Nat.reduceAdd, Nat.reduceEqDiff]) | trivial, ?_⟩; (repeat (first | simp (maxSteps := 2000000) (disch := omega) only [go_sem, ↓reduceIte, Nat.reduceEqDiff, Nat.reduceAdd, Nat.reduceMul, Nat.reduceSub, Int.reduceToNat, Int.reduceAdd, Int.reduceSub, Int.reduceMul, Int.reduceNeg] | with_reducible refine vIf_t ?_ | with_reducible refine vIf_f ?_)))
        refine vIf_bool (fun h3 => ?_) (fun h3 => ?_)
        · (repeat (first | simp (maxSteps := 2000000) (disch := omega) only [go_sem, ↓reduceIte, Nat.reduceEqDiff, Nat.reduceAdd, Nat.reduceMul, Nat.reduceSub, Int.reduceToNat, Int.reduceAdd, Int.reduceSub, Int.reduceMul, Int.reduceNeg] | with_reducible refine vIf_t ?_ | with_reducible refine vIf_f ?_))
          have hsl := selN_len i f
          have hnl := nI_length (selN i f)
          have htk2 : List.take (selN i f).length (nI (selN i f)) = nI (selN i f) := List.take_of_length_le (by omega)
          obtain ⟨f', hf'⟩ := sel_snoc_t i f
          have e1 : nI (selN i f) ++ [(i : Int)] = nI (selN (i + 1) f') := by rw [← hf', nI_app]; rfl
          have e2 : (selN i f).length + 1 = (selN (i + 1) f').length := by rw [← hf']; simp
          (repeat (first | simp (maxSteps := 2000000) (disch := omega) only [go_sem, ↓reduceIte, Nat.reduceEqDiff, Nat.reduceAdd, Nat.reduceMul, Nat.reduceSub, Int.reduceToNat, Int.reduceAdd, Int.reduceSub, Int.reduceMul, Int.reduceNeg, htk2] | with_reducible refine vIf_t ?_ | with_reducible refine vIf_f ?_))
          refine againF (i + 1, some f', σ7) ⟨by (try simp only); omega, by (try simp only); omega⟩ (by (try simp only); omega) ?_
          simp only
          refine leF_s ?_; (repeat (first | simp (maxSteps := 2000000) (disch := omega) only [go_sem, ↓reduceIte, Nat.reduceEqDiff, Nat.reduceAdd, Nat.reduceMul, Nat.reduceSub, Int.reduceToNat, Int.reduceAdd, Int.reduceSub, Int.reduceMul, Int.reduceNeg, hnr, hki, e1, e2] | with_reducible refine vIf_t ?_ | with_reducible refine vIf_f ?_))
          omega
        · (repeat (first | simp (maxSteps := 2000000) (disch := omega) only [go_sem, ↓reduceIte, Nat.reduceEqDiff, Nat.reduceAdd, Nat.reduceMul, Nat.reduceSub, Int.reduceToNat, Int.reduceAdd, Int.reduceSub, Int.reduceMul, Int.reduceNeg] | with_reducible refine vIf_t ?_ | with_reducible refine vIf_f ?_))
          obtain ⟨f', hf'⟩ := sel_snoc_f i f
          refine againF (i + 1, some f', σ7) ⟨by (try simp only); omega, by (try simp only); omega⟩ (by (try simp only); omega) ?_
          simp only [← hf']
          refine leF_s ?_; (repeat (first | simp (maxSteps := 2000000) (disch := omega) only [go_sem, ↓reduceIte, Nat.reduceEqDiff, Nat.reduceAdd, Nat.reduceMul, Nat.reduceSub, Int.reduceToNat, Int.reduceAdd, Int.reduceSub, Int.reduceMul, Int.reduceNeg, hnr, hki] | with_reducible refine vIf_t ?_ | with_reducible refine vIf_f ?_))
          all_goals omega
      · have ei : i = ts.length := by omega
        subst ei
        (repeat (first | simp (maxSteps := 2000000) (disch := omega) only [go_sem, ↓reduceIte, Nat.reduceEqDiff, Nat.reduceAdd, Nat.reduceMul, Nat.reduceSub, Int.reduceToNat, Int.reduceAdd, Int.reduceSub, Int.reduceMul, Int.reduceNeg, him, hon, htk, hlc, hki] | with_reducible refine vIf_t ?_ | with_reducible refine vIf_f ?_))
        refine again_frz (k - 1, cs ++ [I (1 + v1), I (100 * v2), I v3, .sl (nI (selN ts.length f)).length (ints (nI (selN ts.length f)))], ts ++ [⟨1 + v1, 100 * v2, v3, nI (selN ts.length f)⟩], σ6) ⟨hD.snoc (by omega) _ _ _ _ _ (.inr rfl) (by omega) (by omega) (by omega) (by rw [nI_length]; have := selN_len ts.length f; omega) (rises_sel _ _), by omega, by simp; omega, by simp; omega⟩ (by simp only; omega) (.step 3 ⟨1, ints (nI (selN ts.length f))⟩ rfl (by (repeat (first | simp (maxSteps := 2000000) (disch := omega) only [go_sem, ↓reduceIte, Nat.reduceEqDiff, Nat.reduceAdd, Nat.reduceMul, Nat.reduceSub, Int.reduceToNat, Int.reduceAdd, Int.reduceSub, Int.reduceMul, Int.reduceNeg] | with_reducible refine vIf_t ?_ | with_reducible refine vIf_f ?_))) (.refl _)) ?_
        (repeat (first | simp (maxSteps := 2000000) (disch := omega) only [go_sem, ↓reduceIte, Nat.reduceEqDiff, Nat.reduceAdd, Nat.reduceMul, Nat.reduceSub, Int.reduceToNat, Int.reduceAdd, Int.reduceSub, Int.reduceMul, Int.reduceNeg, hnr, hki, hfz] | with_reducible refine vIf_t ?_ | with_reducible refine vIf_f ?_))
        refine ⟨by omega, ?_⟩
        rw [show (selN ts.length f).length = (nI (selN ts.length f)).length from (nI_length _).symm, List.take_length]
  · (repeat (first | simp (maxSteps := 2000000) (disch := omega) only [go_sem, ↓reduceIte, Nat.reduceEqDiff, Nat.reduceAdd, Nat.reduceMul, Nat.reduceSub, Int.reduceToNat, Int.reduceAdd, Int.reduceSub, Int.reduceMul, Int.reduceNeg] | with_reducible refine vIf_t ?_ | with_reducible refine vIf_f ?_))
    (repeat (first | simp (maxSteps := 2000000) (disch := omega) only [go_sem, ↓reduceIte, Nat.reduceEqDiff, Nat.reduceAdd, Nat.reduceMul, Nat.reduceSub, Int.reduceToNat, Int.reduceAdd, Int.reduceSub, Int.reduceMul, Int.reduceNeg] | with_reducible refine vIf_t ?_ | with_reducible refine vIf_f ?_))
    refine retK_of ?_
    (repeat (first | simp (maxSteps := 2000000) (disch := omega) only [go_sem, ↓reduceIte, Nat.reduceEqDiff, Nat.reduceAdd, Nat.reduceMul, Nat.reduceSub, Int.reduceToNat, Int.reduceAdd, Int.reduceSub, Int.reduceMul, Int.reduceNeg, hnr, hrn] | with_reducible refine vIf_t ?_ | with_reducible refine vIf_f ?_))
    exact ⟨cs, ts, σ2, rfl, rfl, hD, by omega⟩
theorem a2Tasks0 (code : List Int) (g : SrOk code) : ACalls Tryd.prog 5 [bS code] [] (fun r o => ∃ (cs : List V) (ts : List Tk), r = .sl ts.length cs ∧ o = [] ∧ TkD cs ts ∧ 1 ≤ ts.length) := by
  refine ACalls.of_vc Tryd.func5 rfl (by decide) 23 rfl [.tmp 2] rfl (by simp) ?_
  unfold bS
  have hfr := from_e g
  have hdr := l22Draw_e g ⟨0, 0⟩ (by simp)
  unfold bS at hfr
  (repeat (first | simp (maxSteps := 2000000) (disch := omega) only [go_sem, ↓reduceIte, Nat.reduceEqDiff, Nat.reduceAdd, Nat.reduceMul, Nat.reduceSub, Int.reduceToNat, Int.reduceAdd, Int.reduceSub, Int.reduceMul, Int.reduceNeg] | with_reducible refine vIf_t ?_ | with_reducible refine vIf_f ?_))
  (refine vCallX_of ?_; (repeat (first | simp (maxSteps := 2000000) (disch := omega) only [go_sem, ↓reduceIte, Nat.reduceEqDiff, Nat.reduceAdd, Nat.reduceMul, Nat.reduceSub, Int.reduceToNat, Int.reduceAdd, Int.reduceSub, Int.reduceMul, Int.reduceNeg] | with_reducible refine vIf_t ?_ | with_reducible refine vIf_f ?_)); refine vCall_eq (hfr) (by simp (disch := omega) only [go_sem, Nat.reduceAdd]) rfl (by first | exact Or.inl rfl | exact Or.inr ⟨rfl, rfl⟩ | (apply Or.inr; simp only [go_sem])) ?_; (repeat (first | simp (maxSteps := 2000000) (disch := omega) only [go_sem, ↓reduceIte, Nat.reduceEqDiff, Nat.reduceAdd, Nat.reduceMul, Nat.reduceSub, Int.reduceToNat, Int.reduceAdd, Int.reduceSub, Int.reduceMul, Int.reduceNeg] | with_reducible refine vIf_t ?_ | with_reducible refine vIf_f ?_)))
  (refine vCallX_io [0] ?_; (repeat (first | simp (maxSteps := 2000000) (disch := omega) only [go_sem, ↓reduceIte, Nat.reduceEqDiff, Nat.reduceAdd, Nat.reduceMul, Nat.reduceSub, Int.reduceToNat, Int.reduceAdd, Int.reduceSub, Int.reduceMul, Int.reduceNeg] | with_reducible refine vIf_t ?_ | with_reducible refine vIf_f ?_)); refine vCallIO_ex (hdr) (by simp (disch := omega) only [go_sem, Nat.reduceAdd, Nat.reduceEqDiff]) (by simp (disch := omega) only [go_sem, Nat.reduceAdd, Nat.reduceEqDiff]) (by first | rfl | (simp (disch := omega) only [go_sem, Nat.reduceAdd, Nat.reduceEqDiff])) (by first | rfl | (simp (disch := omega) only [go_sem, Nat.reduceAdd, Nat.reduceEqDiff])) (by first | rfl | (simp (disch := omega) only [go_sem, Nat.reduceAdd, Nat.reduceEqDiff])) ?_); rintro _ _ ⟨cs, ts, σ1, rfl, rfl, hD, hp1⟩; (refine ⟨by first | (simp (disch := omega) only [go_sem, Nat.reduceAdd, Nat.reduceEqDiff]) | trivial, ?_⟩; (repeat (first | simp (maxSteps := 2000000) (disch := omega) only [go_sem, ↓reduceIte, Nat.reduceEqDiff, Nat.reduceAdd, Nat.reduceMul, Nat.reduceSub, Int.reduceToNat, Int.reduceAdd, Int.reduceSub, Int.reduceMul, Int.reduceNeg] | with_reducible refine vIf_t ?_ | with_reducible refine vIf_f ?_)))
  simp only at hp1
  have hlc := hD.len
  have htk := hD.take
  have him := hD.im
  have hon := hD.on
  have hnr := hD.nr
  have hki := fun p => killL_noref p cs hnr
  have hfz := fun f => frzL_noref f cs hnr
  have hrn := fun g => renL_norefW g cs hnr
  refine vIf_dec (fun h => ?_) (fun h => ?_)
  · have h0 : ts = [] := List.eq_nil_of_length_eq_zero (by omega)
    subst h0
    have hc0 : cs = [] := List.eq_nil_of_length_eq_zero (by simpa using hlc)
    subst hc0
    have hD1 := hD.snoc (by simp)
    (repeat (first | simp (maxSteps := 2000000) (disch := omega) only [go_sem, ↓reduceIte, Nat.reduceEqDiff, Nat.reduceAdd, Nat.reduceMul, Nat.reduceSub, Int.reduceToNat, Int.reduceAdd, Int.reduceSub, Int.reduceMul, Int.reduceNeg] | with_reducible refine vIf_t ?_ | with_reducible refine vIf_f ?_))
    (refine vCallX_io [0] ?_; (repeat (first | simp (maxSteps := 2000000) (disch := omega) only [go_sem, ↓reduceIte, Nat.reduceEqDiff, Nat.reduceAdd, Nat.reduceMul, Nat.reduceSub, Int.reduceToNat, Int.reduceAdd, Int.reduceSub, Int.reduceMul, Int.reduceNeg] | with_reducible refine vIf_t ?_ | with_reducible refine vIf_f ?_)); refine vCallIO_ex (pick_e g 9 σ1 (by omega)) (by simp (disch := omega) only [go_sem, Nat.reduceAdd, Nat.reduceEqDiff]) (by simp (disch := omega) only [go_sem, Nat.reduceAdd, Nat.reduceEqDiff]) (by first | rfl | (simp (disch := omega) only [go_sem, Nat.reduceAdd, Nat.reduceEqDiff])) (by first | rfl | (simp (disch := omega) only [go_sem, Nat.reduceAdd, Nat.reduceEqDiff])) (by first | rfl | (simp (disch := omega) only [go_sem, Nat.reduceAdd, Nat.reduceEqDiff])) ?_); rintro _ _ ⟨v1, σ2, rfl, rfl, a1, a2, a3⟩; (refine ⟨by first | (simp (disch := omega) only [go_sem, Nat.reduceAdd, Nat.reduceEqDiff]) | trivial, ?_⟩; (repeat (first | simp (maxSteps := 2000000) (disch := omega) only [go_sem, ↓reduceIte, Nat.reduceEqDiff, Nat.reduceAdd, Nat.reduceMul, Nat.reduceSub, Int.reduceToNat, Int.reduceAdd, Int.reduceSub, Int.reduceMul, Int.reduceNeg] | with_reducible refine vIf_t ?_ | with_reducible refine vIf_f ?_)))
    (refine vCallX_io [0] ?_; (repeat (first | simp (maxSteps := 2000000) (disch := omega) only [go_sem, ↓reduceIte, Nat.reduceEqDiff, Nat.reduceAdd, Nat.reduceMul, Nat.reduceSub, Int.reduceToNat, Int.reduceAdd, Int.reduceSub, Int.reduceMul, Int.reduceNeg] | with_reducible refine vIf_t ?_ | with_reducible refine vIf_f ?_)); refine vCallIO_ex (pick_e g 9 σ2 (by omega)) (by simp (disch := omega) only [go_sem, Nat.reduceAdd, Nat.reduceEqDiff]) (by simp (disch := omega) only [go_sem, Nat.reduceAdd, Nat.reduceEqDiff]) (by first | rfl | (simp (disch := omega) only [go_sem, Nat.reduceAdd, Nat.reduceEqDiff])) (by first | rfl | (simp (disch := omega) only [go_sem, Nat.reduceAdd, Nat.reduceEqDiff])) (by first | rfl | (simp (disch := omega) only [go_sem, Nat.reduceAdd, Nat.reduceEqDiff])) ?_); rintro _ _ ⟨v2, σ3, rfl, rfl, a4, a5, a6⟩; (refine ⟨by first | (simp (disch := omega) only [go_sem, Nat.reduceAdd, Nat.reduceEqDiff]) | trivial, ?_⟩; (repeat (first | simp (maxSteps := 2000000) (disch := omega) only [go_sem, ↓reduceIte, Nat.reduceEqDiff, Nat.reduceAdd, Nat.reduceMul, Nat.reduceSub, Int.reduceToNat, Int.reduceAdd, Int.reduceSub, Int.reduceMul, Int.reduceNeg] | with_reducible refine vIf_t ?_ | with_reducible refine vIf_f ?_)))
    have hD2 := hD1 (1 + v1) (100 * v2) 0 nilS [] (.inl ⟨rfl, rfl⟩) (by omega) (by omega) (by omega) (by simp) rfl
    refine retK_fz 1 _ rfl (by (repeat (first | simp (maxSteps := 2000000) (disch := omega) only [go_sem, ↓reduceIte, Nat.reduceEqDiff, Nat.reduceAdd, Nat.reduceMul, Nat.reduceSub, Int.reduceToNat, Int.reduceAdd, Int.reduceSub, Int.reduceMul, Int.reduceNeg] | with_reducible refine vIf_t ?_ | with_reducible refine vIf_f ?_))) ?_
    (repeat (first | simp (maxSteps := 2000000) (disch := omega) only [go_sem, ↓reduceIte, Nat.reduceEqDiff, Nat.reduceAdd, Nat.reduceMul, Nat.reduceSub, Int.reduceToNat, Int.reduceAdd, Int.reduceSub, Int.reduceMul, Int.reduceNeg] | with_reducible refine vIf_t ?_ | with_reducible refine vIf_f ?_))
    refine retK_of ?_
    (repeat (first | simp (maxSteps := 2000000) (disch := omega) only [go_sem, ↓reduceIte, Nat.reduceEqDiff, Nat.reduceAdd, Nat.reduceMul, Nat.reduceSub, Int.reduceToNat, Int.reduceAdd, Int.reduceSub, Int.reduceMul, Int.reduceNeg] | with_reducible refine vIf_t ?_ | with_reducible refine vIf_f ?_))
    exact ⟨_, [⟨1 + v1, 100 * v2, 0, []⟩], rfl, hD2, by simp⟩
  · (repeat (first | simp (maxSteps := 2000000) (disch := omega) only [go_sem, ↓reduceIte, Nat.reduceEqDiff, Nat.reduceAdd, Nat.reduceMul, Nat.reduceSub, Int.reduceToNat, Int.reduceAdd, Int.reduceSub, Int.reduceMul, Int.reduceNeg, hrn] | with_reducible refine vIf_t ?_ | with_reducible refine vIf_f ?_))
    refine retK_fz 1 ⟨4, cs⟩ rfl him ?_
    (repeat (first | simp (maxSteps := 2000000) (disch := omega) only [go_sem, ↓reduceIte, Nat.reduceEqDiff, Nat.reduceAdd, Nat.reduceMul, Nat.reduceSub, Int.reduceToNat, Int.reduceAdd, Int.reduceSub, Int.reduceMul, Int.reduceNeg] | with_reducible refine vIf_t ?_ | with_reducible refine vIf_f ?_))
    refine retK_of ?_
    (repeat (first | simp (maxSteps := 2000000) (disch := omega) only [go_sem, ↓reduceIte, Nat.reduceEqDiff, Nat.reduceAdd, Nat.reduceMul, Nat.reduceSub, Int.reduceToNat, Int.reduceAdd, Int.reduceSub, Int.reduceMul, Int.reduceNeg, hnr, hrn, htk] | with_reducible refine vIf_t ?_ | with_reducible refine vIf_f ?_))
    exact ⟨cs, ts, rfl, hD, by omega⟩
theorem a2Worths_ok (code : List Int) (g : SrOk code) (n : Nat) (hn : n ≤ 100) : ACalls Tryd.prog 6 [bS code, I n] [] (fun r o => ∃ ws : List Int, r = .ref 0 0 ws.length ∧ o = [oI ws] ∧ ws.length = n ∧ ∀ j, j < ws.length → 0 ≤ gi ws j ∧ gi ws j ≤ 1000) := by
  refine ACalls.of_vc Tryd.func6 rfl (by decide) 22 rfl [.tmp 4] rfl (by simp) ?_
  unfold bS
  have hfr := from_e g
  unfold bS at hfr
  (repeat (first | simp (maxSteps := 2000000) (disch := omega) only [go_sem, ↓reduceIte, Nat.reduceEqDiff, Nat.reduceAdd, Nat.reduceMul, Nat.reduceSub, Int.reduceToNat, Int.reduceAdd, Int.reduceSub, Int.reduceMul, Int.reduceNeg] | with_reducible refine vIf_t ?_ | with_reducible refine vIf_f ?_))
  (refine vCallX_of ?_; (repeat (first | simp (maxSteps := 2000000) (disch := omega) only [go_sem, ↓reduceIte, Nat.reduceEqDiff, Nat.reduceAdd, Nat.reduceMul, Nat.reduceSub, Int.reduceToNat, Int.reduceAdd, Int.reduceSub, Int.reduceMul, Int.reduceNeg] | with_reducible refine vIf_t ?_ | with_reducible refine vIf_f ?_)); refine vCall_eq (hfr) (by simp (disch := omega) only [go_sem, Nat.reduceAdd]) rfl (by first | exact Or.inl rfl | exact Or.inr ⟨rfl, rfl⟩ | (apply Or.inr; simp only [go_sem])) ?_; (repeat (first | simp (maxSteps := 2000000) (disch := omega) only [go_sem, ↓reduceIte, Nat.reduceEqDiff, Nat.reduceAdd, Nat.reduceMul, Nat.reduceSub, Int.reduceToNat, Int.reduceAdd, Int.reduceSub, Int.reduceMul, Int.reduceNeg] | with_reducible refine vIf_t ?_ | with_reducible refine vIf_f ?_)))
  refine vcLoop_invF (fun x : List Int × Sr => x.1.length ≤ n ∧ (∀ j, j < x.1.length → 0 ≤ gi x.1 j ∧ gi x.1 j ≤ 1000) ∧ x.2.pos ≤ 2 * x.1.length) (fun x => ⟨22, 0, [(7, I x.1.length), (5, .ptr 0 0), (6, .ref 1 0 x.1.length), (1, I n)], [srO code x.2, oI x.1]⟩) (fun x => n - x.1.length) ([], ⟨0, 0⟩) ⟨by simp, by simp, by simp⟩ (by (first | (refine leF_s ?_; ((repeat (first | simp (maxSteps := 2000000) (disch := omega) only [go_sem, ↓reduceIte, Nat.reduceEqDiff, Nat.reduceAdd, Nat.reduceMul, Nat.reduceSub, Int.reduceToNat, Int.reduceAdd, Int.reduceSub, Int.reduceMul, Int.reduceNeg] | with_reducible refine vIf_t ?_ | with_reducible refine vIf_f ?_)); all_goals (try simp); all_goals (try omega)); done) | (refine leF_p ?_; ((repeat (first | simp (maxSteps := 2000000) (disch := omega) only [go_sem, ↓reduceIte, Nat.reduceEqDiff, Nat.reduceAdd, Nat.reduceMul, Nat.reduceSub, Int.reduceToNat, Int.reduceAdd, Int.reduceSub, Int.reduceMul, Int.reduceNeg] | with_reducible refine vIf_t ?_ | with_reducible refine vIf_f ?_)); all_goals (try simp); all_goals (try omega)); done))) ?_
  rintro ⟨ws, σ⟩ ⟨h1, h2, h3⟩
  simp only at h1 h2 h3
  (repeat (first | simp (maxSteps := 2000000) (disch := omega) only [go_sem, ↓reduceIte, Nat.reduceEqDiff, Nat.reduceAdd, Nat.reduceMul, Nat.reduceSub, Int.reduceToNat, Int.reduceAdd, Int.reduceSub, Int.reduceMul, Int.reduceNeg] | with_reducible refine vIf_t ?_ | with_reducible refine vIf_f ?_))
  refine vIf_dec (fun h => ?_) (fun h => ?_)
  · (repeat (first | simp (maxSteps := 2000000) (disch := omega) only [go_sem, ↓reduceIte, Nat.reduceEqDiff, Nat.reduceAdd, Nat.reduceMul, Nat.reduceSub, Int.reduceToNat, Int.reduceAdd, Int.reduceSub, Int.reduceMul, Int.reduceNeg] | with_reducible refine vIf_t ?_ | with_reducible refine vIf_f ?_))
    (refine vCallX_io [0] ?_; (repeat (first | simp (maxSteps := 2000000) (disch := omega) only [go_sem, ↓reduceIte, Nat.reduceEqDiff, Nat.reduceAdd, Nat.reduceMul, Nat.reduceSub, Int.reduceToNat, Int.reduceAdd, Int.reduceSub, Int.reduceMul, Int.reduceNeg] | with_reducible refine vIf_t ?_ | with_reducible refine vIf_f ?_)); refine vCallIO_ex (pick_e g 20 σ (by omega)) (by simp (disch := omega) only [go_sem, Nat.reduceAdd, Nat.reduceEqDiff]) (by simp (disch := omega) only [go_sem, Nat.reduceAdd, Nat.reduceEqDiff]) (by first | rfl | (simp (disch := omega) only [go_sem, Nat.reduceAdd, Nat.reduceEqDiff])) (by first | rfl | (simp (disch := omega) only [go_sem, Nat.reduceAdd, Nat.reduceEqDiff])) (by first | rfl | (simp (disch := omega) only [go_sem, Nat.reduceAdd, Nat.reduceEqDiff])) ?_); rintro _ _ ⟨v, σ1, rfl, rfl, a1, a2, a3⟩; (refine ⟨by first | (simp (disch := omega) only [go_sem, Nat.reduceAdd, Nat.reduceEqDiff]) | trivial, ?_⟩; (repeat (first | simp (maxSteps := 2000000) (disch := omega) only [go_sem, ↓reduceIte, Nat.reduceEqDiff, Nat.reduceAdd, Nat.reduceMul, Nat.reduceSub, Int.reduceToNat, Int.reduceAdd, Int.reduceSub, Int.reduceMul, Int.reduceNeg] | with_reducible refine vIf_t ?_ | with_reducible refine vIf_f ?_)))
    refine againF (ws ++ [v], σ1) ⟨by simp; omega, fun j hj => ?_, by simp; omega⟩ (by simp; omega) (by (first | (refine leF_s ?_; ((repeat (first | simp (maxSteps := 2000000) (disch := omega) only [go_sem, ↓reduceIte, Nat.reduceEqDiff, Nat.reduceAdd, Nat.reduceMul, Nat.reduceSub, Int.reduceToNat, Int.reduceAdd, Int.reduceSub, Int.reduceMul, Int.reduceNeg] | with_reducible refine vIf_t ?_ | with_reducible refine vIf_f ?_)); all_goals (try simp); all_goals (try omega)); done) | (refine leF_p ?_; ((repeat (first | simp (maxSteps := 2000000) (disch := omega) only [go_sem, ↓reduceIte, Nat.reduceEqDiff, Nat.reduceAdd, Nat.reduceMul, Nat.reduceSub, Int.reduceToNat, Int.reduceAdd, Int.reduceSub, Int.reduceMul, Int.reduceNeg] | with_reducible refine vIf_t ?_ | with_reducible refine vIf_f ?_)); all_goals (try simp); all_goals (try omega)); done)))
    simp only [List.length_append, List.length_cons, List.length_nil] at hj
    simp only
    by_cases e : j < ws.length
    · rw [gi_append_left _ _ _ e]; exact h2 j e
    · have : j = ws.length := by omega
      subst this
      rw [gi_append_right _ _ _ (Nat.le_refl _), Nat.sub_self]
      simp only [gi, List.getD_cons_zero]
      omega
  · (repeat (first | simp (maxSteps := 2000000) (disch := omega) only [go_sem, ↓reduceIte, Nat.reduceEqDiff, Nat.reduceAdd, Nat.reduceMul, Nat.reduceSub, Int.reduceToNat, Int.reduceAdd, Int.reduceSub, Int.reduceMul, Int.reduceNeg] | with_reducible refine vIf_t ?_ | with_reducible refine vIf_f ?_))
    (refine retK_of ?_; (repeat (first | simp (maxSteps := 2000000) (disch := omega) only [go_sem, ↓reduceIte, Nat.reduceEqDiff, Nat.reduceAdd, Nat.reduceMul, Nat.reduceSub, Int.reduceToNat, Int.reduceAdd, Int.reduceSub, Int.reduceMul, Int.reduceNeg] | with_reducible refine vIf_t ?_ | with_reducible refine vIf_f ?_)))
    exact ⟨ws, rfl, rfl, by omega, h2⟩
theorem a2Tasks_e (code : List Int) (g : SrOk code) : ACalls Tryd.prog 5 [bS code] [] (fun r o => ∃ ts : List Tk, r = .sl ts.length (cTk ts) ∧ o = [] ∧ TkX ts ∧ 1 ≤ ts.length) :=
  (a2Tasks0 code g).leI fun r o ⟨cs, ts, e1, e2, hD, h1⟩ => ⟨.sl ts.length (cTk ts), by rw [e1]; exact hD.le.toSl, ts, rfl, e2, hD.x, h1⟩
theorem clB_mono {ts : List Tk} {q : List Int} (i : Int) (h : clB ts q = true) (h2 : ∀ j, j < (gTk ts i.toNat).af.length → gi (gTk ts i.toNat).af j ∈ q) : clB ts (q ++ [i]) = true := by
  unfold clB at h ⊢
  rw [List.all_eq_true] at h ⊢
  intro y hy
  rw [List.all_eq_true]
  intro k hk
  rcases List.mem_append.1 hy with hy | hy
  · have := List.all_eq_true.1 (h y hy) k hk
    exact decide_eq_true (List.mem_append_left _ (of_decide_eq_true this))
  · rw [List.mem_singleton] at hy
    subst hy
    obtain ⟨j, hj, e⟩ := List.mem_iff_getElem.1 hk
    have := h2 j hj
    rw [gi_lt _ _ hj, e] at this
    exact decide_eq_true (List.mem_append_left _ this)
set_option maxHeartbeats 2000000 in
theorem a2Closed_ok (code : List Int) (g : SrOk code) (ts : List Tk) (X : TkX ts) : ACalls Tryd.prog 10 [bS code, .sl ts.length (cTk ts)] [] (fun r o => ∃ f : Nat → Bool, r = .ref 0 0 (nI (selN ts.length f)).length ∧ o = [oI (nI (selN ts.length f))] ∧ clB ts (nI (selN ts.length f)) = true) := by
  refine ACalls.of_vc Tryd.func10 rfl (by decide) 51 rfl [.tmp 4] rfl (by simp) ?_
  unfold bS
  have hfr := from_e g
  unfold bS at hfr
  have hn := X.n
  (repeat (first | simp (maxSteps := 2000000) (disch := omega) only [go_sem, ↓reduceIte, Nat.reduceEqDiff, Nat.reduceAdd, Nat.reduceMul, Nat.reduceSub, Int.reduceToNat, Int.reduceAdd, Int.reduceSub, Int.reduceMul, Int.reduceNeg] | with_reducible refine vIf_t ?_ | with_reducible refine vIf_f ?_))
  (refine vCallX_of ?_; (repeat (first | simp (maxSteps := 2000000) (disch := omega) only [go_sem, ↓reduceIte, Nat.reduceEqDiff, Nat.reduceAdd, Nat.reduceMul, Nat.reduceSub, Int.reduceToNat, Int.reduceAdd, Int.reduceSub, Int.reduceMul, Int.reduceNeg] | with_reducible refine vIf_t ?_ | with_reducible refine vIf_f ?_)); refine vCall_eq (hfr) (by simp (disch := omega) only [go_sem, Nat.reduceAdd]) rfl (by first | exact Or.inl rfl | exact Or.inr ⟨rfl, rfl⟩ | (apply Or.inr; simp only [go_sem])) ?_; (repeat (first | simp (maxSteps := 2000000) (disch := omega) only [go_sem, ↓reduceIte, Nat.reduceEqDiff, Nat.reduceAdd, Nat.reduceMul, Nat.reduceSub, Int.reduceToNat, Int.reduceAdd, Int.reduceSub, Int.reduceMul, Int.reduceNeg] | with_reducible refine vIf_t ?_ | with_reducible refine vIf_f ?_)))
  refine vcLoop_invF (fun x : Nat × (Nat → Bool) × Sr => x.1 ≤ ts.length ∧ clB ts (nI (selN x.1 x.2.1)) = true ∧ x.2.2.pos ≤ 2 * x.1) (fun x => ⟨51, 0, [(7, I x.1), (1, .sl ts.length (cTk ts)), (6, .ref 1 0 (selN x.1 x.2.1).length), (5, .ptr 0 0)], [srO code x.2.2, oI (nI (selN x.1 x.2.1))]⟩) (fun x => ts.length - x.1) (0, (fun _ => false), ⟨0, 0⟩) ⟨by simp, rfl, by simp⟩ (by simp only [selN, List.range_zero, List.filter_nil, nI, List.map_nil, List.length_nil]; (first | (refine leF_s ?_; ((repeat (first | simp (maxSteps := 2000000) (disch := omega) only [go_sem, ↓reduceIte, Nat.reduceEqDiff, Nat.reduceAdd, Nat.reduceMul, Nat.reduceSub, Int.reduceToNat, Int.reduceAdd, Int.reduceSub, Int.reduceMul, Int.reduceNeg] | with_reducible refine vIf_t ?_ | with_reducible refine vIf_f ?_)); all_goals (try simp); all_goals (try omega)); done) | (refine leF_p ?_; ((repeat (first | simp (maxSteps := 2000000) (disch := omega) only [go_sem, ↓reduceIte, Nat.reduceEqDiff, Nat.reduceAdd, Nat.reduceMul, Nat.reduceSub, Int.reduceToNat, Int.reduceAdd, Int.reduceSub, Int.reduceMul, Int.reduceNeg] | with_reducible refine vIf_t ?_ | with_reducible refine vIf_f ?_)); all_goals (try simp); all_goals (try omega)); done))) ?_
  rintro ⟨i, f, σ⟩ ⟨h1, h2, h3⟩
  simp only at h1 h2 h3
  have hsl := selN_len i f
  have hnl := nI_length (selN i f)
  (repeat (first | simp (maxSteps := 2000000) (disch := omega) only [go_sem, ↓reduceIte, Nat.reduceEqDiff, Nat.reduceAdd, Nat.reduceMul, Nat.reduceSub, Int.reduceToNat, Int.reduceAdd, Int.reduceSub, Int.reduceMul, Int.reduceNeg] | with_reducible refine vIf_t ?_ | with_reducible refine vIf_f ?_))
  refine vIf_dec (fun h => ?_) (fun h => ?_)
  · have hil : i < ts.length := by omega
    have hE := X.e i hil
    have hEn := hE.n
    (repeat (first | simp (maxSteps := 2000000) (disch := omega) only [go_sem, ↓reduceIte, Nat.reduceEqDiff, Nat.reduceAdd, Nat.reduceMul, Nat.reduceSub, Int.reduceToNat, Int.reduceAdd, Int.reduceSub, Int.reduceMul, Int.reduceNeg] | with_reducible refine vIf_t ?_ | with_reducible refine vIf_f ?_))
    (refine vCallX_io [0] ?_; (repeat (first | simp (maxSteps := 2000000) (disch := omega) only [go_sem, ↓reduceIte, Nat.reduceEqDiff, Nat.reduceAdd, Nat.reduceMul, Nat.reduceSub, Int.reduceToNat, Int.reduceAdd, Int.reduceSub, Int.reduceMul, Int.reduceNeg] | with_reducible refine vIf_t ?_ | with_reducible refine vIf_f ?_)); refine vCallIO_ex (one_e g 3 σ (by omega)) (by simp (disch := omega) only [go_sem, Nat.reduceAdd, Nat.reduceEqDiff]) (by simp (disch := omega) only [go_sem, Nat.reduceAdd, Nat.reduceEqDiff]) (by first | rfl | (simp (disch := omega) only [go_sem, Nat.reduceAdd, Nat.reduceEqDiff])) (by first | rfl | (simp (disch := omega) only [go_sem, Nat.reduceAdd, Nat.reduceEqDiff])) (by first | rfl | (simp (disch := omega) only [go_sem, Nat.reduceAdd, Nat.reduceEqDiff])) ?_); rintro _ _ ⟨b, σ1, rfl, rfl, a1⟩; (refine ⟨by first | (simp (disch := omega) only [go_sem, Nat.reduceAdd, Nat.reduceEqDiff]) | trivial, ?_⟩; (repeat (first | simp (maxSteps := 2000000) (disch := omega) only [go_sem, ↓reduceIte, Nat.reduceEqDiff, Nat.reduceAdd, Nat.reduceMul, Nat.reduceSub, Int.reduceToNat, Int.reduceAdd, Int.reduceSub, Int.reduceMul, Int.reduceNeg] | with_reducible refine vIf_t ?_ | with_reducible refine vIf_f ?_)))
    refine vcLoop_invF (fun y : Nat × Bool => y.1 ≤ (gTk ts i).af.length ∧ (y.2 = true → ∀ j, j < y.1 → gi (gTk ts i).af j ∈ nI (selN i f))) (fun y => ⟨51, 0, [(9, I y.1), (7, I i), (1, .sl ts.length (cTk ts)), (6, .ref 1 0 (selN i f).length), (8, B y.2), (5, .ptr 0 0)], [srO code σ1, oI (nI (selN i f))]⟩) (fun y => (gTk ts i).af.length - y.1) (0, !b) ⟨by simp, fun _ j hj => by simp at hj⟩ (by (first | (refine leF_s ?_; ((repeat (first | simp (maxSteps := 2000000) (disch := omega) only [go_sem, ↓reduceIte, Nat.reduceEqDiff, Nat.reduceAdd, Nat.reduceMul, Nat.reduceSub, Int.reduceToNat, Int.reduceAdd, Int.reduceSub, Int.reduceMul, Int.reduceNeg] | with_reducible refine vIf_t ?_ | with_reducible refine vIf_f ?_)); all_goals (try simp); all_goals (try omega)); done) | (refine leF_p ?_; ((repeat (first | simp (maxSteps := 2000000) (disch := omega) only [go_sem, ↓reduceIte, Nat.reduceEqDiff, Nat.reduceAdd, Nat.reduceMul, Nat.reduceSub, Int.reduceToNat, Int.reduceAdd, Int.reduceSub, Int.reduceMul, Int.reduceNeg] | with_reducible refine vIf_t ?_ | with_reducible refine vIf_f ?_)); all_goals (try simp); all_goals (try omega)); done))) ?_
    rintro ⟨k, fi⟩ ⟨g1, g2⟩
    simp only at g1 g2
    (repeat (first | simp (maxSteps := 2000000) (disch := omega) only [go_sem, ↓reduceIte, Nat.reduceEqDiff, Nat.reduceAdd, Nat.reduceMul, Nat.reduceSub, Int.reduceToNat, Int.reduceAdd, Int.reduceSub, Int.reduceMul, Int.reduceNeg] | with_reducible refine vIf_t ?_ | with_reducible refine vIf_f ?_))
    refine vIf_dec (fun h4 => ?_) (fun h4 => ?_)
    · have hkl : k < (gTk ts i).af.length := by omega
      have hh := hasSI_ok (nI (selN i f)) (gi (gTk ts i).af k) (by omega)
      unfold iS at hh
      rw [hnl] at hh
      cases fi with
      | false =>
        (repeat (first | simp (maxSteps := 2000000) (disch := omega) only [go_sem, ↓reduceIte, Nat.reduceEqDiff, Nat.reduceAdd, Nat.reduceMul, Nat.reduceSub, Int.reduceToNat, Int.reduceAdd, Int.reduceSub, Int.reduceMul, Int.reduceNeg] | with_reducible refine vIf_t ?_ | with_reducible refine vIf_f ?_))
        refine againF (k + 1, false) ⟨by simp only; omega, fun h => by cases h⟩ (by simp only; omega) (by (first | (refine leF_s ?_; ((repeat (first | simp (maxSteps := 2000000) (disch := omega) only [go_sem, ↓reduceIte, Nat.reduceEqDiff, Nat.reduceAdd, Nat.reduceMul, Nat.reduceSub, Int.reduceToNat, Int.reduceAdd, Int.reduceSub, Int.reduceMul, Int.reduceNeg] | with_reducible refine vIf_t ?_ | with_reducible refine vIf_f ?_)); all_goals (try simp); all_goals (try omega)); done) | (refine leF_p ?_; ((repeat (first | simp (maxSteps := 2000000) (disch := omega) only [go_sem, ↓reduceIte, Nat.reduceEqDiff, Nat.reduceAdd, Nat.reduceMul, Nat.reduceSub, Int.reduceToNat, Int.reduceAdd, Int.reduceSub, Int.reduceMul, Int.reduceNeg] | with_reducible refine vIf_t ?_ | with_reducible refine vIf_f ?_)); all_goals (try simp); all_goals (try omega)); done)))
      | true =>
        (repeat (first | simp (maxSteps := 2000000) (disch := omega) only [go_sem, ↓reduceIte, Nat.reduceEqDiff, Nat.reduceAdd, Nat.reduceMul, Nat.reduceSub, Int.reduceToNat, Int.reduceAdd, Int.reduceSub, Int.reduceMul, Int.reduceNeg] | with_reducible refine vIf_t ?_ | with_reducible refine vIf_f ?_))
        (refine vCallX_of ?_; (repeat (first | simp (maxSteps := 2000000) (disch := omega) only [go_sem, ↓reduceIte, Nat.reduceEqDiff, Nat.reduceAdd, Nat.reduceMul, Nat.reduceSub, Int.reduceToNat, Int.reduceAdd, Int.reduceSub, Int.reduceMul, Int.reduceNeg] | with_reducible refine vIf_t ?_ | with_reducible refine vIf_f ?_)); refine vCall_eq (hh) (by simp (disch := omega) only [go_sem, Nat.reduceAdd]) rfl (by first | exact Or.inl rfl | exact Or.inr ⟨rfl, rfl⟩ | (apply Or.inr; simp only [go_sem])) ?_; (repeat (first | simp (maxSteps := 2000000) (disch := omega) only [go_sem, ↓reduceIte, Nat.reduceEqDiff, Nat.reduceAdd, Nat.reduceMul, Nat.reduceSub, Int.reduceToNat, Int.reduceAdd, Int.reduceSub, Int.reduceMul, Int.reduceNeg] | with_reducible refine vIf_t ?_ | with_reducible refine vIf_f ?_)))
        refine againF (k + 1, decide (gi (gTk ts i).af k ∈ nI (selN i f))) ⟨by simp only; omega, fun h j hj => ?_⟩ (by simp only; omega) (by (first | (refine leF_s ?_; ((repeat (first | simp (maxSteps := 2000000) (disch := omega) only [go_sem, ↓reduceIte, Nat.reduceEqDiff, Nat.reduceAdd, Nat.reduceMul, Nat.reduceSub, Int.reduceToNat, Int.reduceAdd, Int.reduceSub, Int.reduceMul, Int.reduceNeg] | with_reducible refine vIf_t ?_ | with_reducible refine vIf_f ?_)); all_goals (try simp); all_goals (try omega)); done) | (refine leF_p ?_; ((repeat (first | simp (maxSteps := 2000000) (disch := omega) only [go_sem, ↓reduceIte, Nat.reduceEqDiff, Nat.reduceAdd, Nat.reduceMul, Nat.reduceSub, Int.reduceToNat, Int.reduceAdd, Int.reduceSub, Int.reduceMul, Int.reduceNeg] | with_reducible refine vIf_t ?_ | with_reducible refine vIf_f ?_)); all_goals (try simp); all_goals (try omega)); done)))
        by_cases e : j < k
        · exact g2 rfl j e
        · have : j = k := by omega
          subst this; exact of_decide_eq_true h
    · have ek : k = (gTk ts i).af.length := by omega
      subst ek
      (repeat (first | simp (maxSteps := 2000000) (disch := omega) only [go_sem, ↓reduceIte, Nat.reduceEqDiff, Nat.reduceAdd, Nat.reduceMul, Nat.reduceSub, Int.reduceToNat, Int.reduceAdd, Int.reduceSub, Int.reduceMul, Int.reduceNeg] | with_reducible refine vIf_t ?_ | with_reducible refine vIf_f ?_))
      refine vIf_bool (fun h5 => ?_) (fun h5 => ?_)
      · obtain ⟨f', hf'⟩ := sel_snoc_t i f
        have e1 : nI (selN i f) ++ [(i : Int)] = nI (selN (i + 1) f') := by rw [← hf', nI_app]; rfl
        have e2 : (selN i f).length + 1 = (selN (i + 1) f').length := by rw [← hf']; simp
        have htk2 : List.take (selN i f).length (nI (selN i f)) = nI (selN i f) := List.take_of_length_le (by omega)
        (repeat (first | simp (maxSteps := 2000000) (disch := omega) only [go_sem, ↓reduceIte, Nat.reduceEqDiff, Nat.reduceAdd, Nat.reduceMul, Nat.reduceSub, Int.reduceToNat, Int.reduceAdd, Int.reduceSub, Int.reduceMul, Int.reduceNeg, htk2] | with_reducible refine vIf_t ?_ | with_reducible refine vIf_f ?_))
        refine againF (i + 1, f', σ1) ⟨by simp only; omega, ?_, by simp only; omega⟩ (by simp only; omega) ?_
        · simp only
          rw [← e1]
          exact clB_mono (i : Int) h2 (by rw [Int.toNat_natCast]; exact g2 h5)
        · refine leF_s ?_; (repeat (first | simp (maxSteps := 2000000) (disch := omega) only [go_sem, ↓reduceIte, Nat.reduceEqDiff, Nat.reduceAdd, Nat.reduceMul, Nat.reduceSub, Int.reduceToNat, Int.reduceAdd, Int.reduceSub, Int.reduceMul, Int.reduceNeg, e1, e2] | with_reducible refine vIf_t ?_ | with_reducible refine vIf_f ?_))
          all_goals omega
      · obtain ⟨f', hf'⟩ := sel_snoc_f i f
        (repeat (first | simp (maxSteps := 2000000) (disch := omega) only [go_sem, ↓reduceIte, Nat.reduceEqDiff, Nat.reduceAdd, Nat.reduceMul, Nat.reduceSub, Int.reduceToNat, Int.reduceAdd, Int.reduceSub, Int.reduceMul, Int.reduceNeg] | with_reducible refine vIf_t ?_ | with_reducible refine vIf_f ?_))
        refine againF (i + 1, f', σ1) ⟨by simp only; omega, by simp only; rw [← hf']; exact h2, by simp only; omega⟩ (by simp only; omega) ?_
        simp only [← hf']
        (first | (refine leF_s ?_; ((repeat (first | simp (maxSteps := 2000000) (disch := omega) only [go_sem, ↓reduceIte, Nat.reduceEqDiff, Nat.reduceAdd, Nat.reduceMul, Nat.reduceSub, Int.reduceToNat, Int.reduceAdd, Int.reduceSub, Int.reduceMul, Int.reduceNeg] | with_reducible refine vIf_t ?_ | with_reducible refine vIf_f ?_)); all_goals (try simp); all_goals (try omega)); done) | (refine leF_p ?_; ((repeat (first | simp (maxSteps := 2000000) (disch := omega) only [go_sem, ↓reduceIte, Nat.reduceEqDiff, Nat.reduceAdd, Nat.reduceMul, Nat.reduceSub, Int.reduceToNat, Int.reduceAdd, Int.reduceSub, Int.reduceMul, Int.reduceNeg] | with_reducible refine vIf_t ?_ | with_reducible refine vIf_f ?_)); all_goals (try simp); all_goals (try omega)); done))
  · have ei : i = ts.length := by omega
    subst ei
    (repeat (first | simp (maxSteps := 2000000) (disch := omega) only [go_sem, ↓reduceIte, Nat.reduceEqDiff, Nat.reduceAdd, Nat.reduceMul, Nat.reduceSub, Int.reduceToNat, Int.reduceAdd, Int.reduceSub, Int.reduceMul, Int.reduceNeg] | with_reducible refine vIf_t ?_ | with_reducible refine vIf_f ?_))
    (refine retK_of ?_; (repeat (first | simp (maxSteps := 2000000) (disch := omega) only [go_sem, ↓reduceIte, Nat.reduceEqDiff, Nat.reduceAdd, Nat.reduceMul, Nat.reduceSub, Int.reduceToNat, Int.reduceAdd, Int.reduceSub, Int.reduceMul, Int.reduceNeg] | with_reducible refine vIf_t ?_ | with_reducible refine vIf_f ?_)))
    exact ⟨f, by rw [hnl], rfl, h2⟩
theorem parts_ok (ws : List Int) (f : Nat → Bool) (hn : ws.length ≤ 8) (hw : ∀ j, j < ws.length → 0 ≤ gi ws j ∧ gi ws j ≤ 1000) : ACalls Tryd.prog 11 [iS ws, iS (nI (selN ws.length f))] [] (fun r o => r = I (sp (gi ws) f ws.length) ∧ o = []) := by
  refine ACalls.of_vc Tryd.func11 rfl (by decide) 37 rfl [.tmp 4] rfl (by simp) ?_
  have hsl := selN_len ws.length f
  have hnl := nI_length (selN ws.length f)
  have hin : ∀ y ∈ nI (selN ws.length f), 0 ≤ y ∧ y < ws.length := fun y hy => by
    obtain ⟨i, hi, rfl⟩ := mem_nIs.1 hy
    have := (mem_selN.1 hi).1
    omega
  rw [← sq_sel (gi ws) f ws.length]
  generalize nI (selN ws.length f) = s at *
  have bw : ∀ j, 0 ≤ sq (gi ws) (s.take j) ∧ sq (gi ws) (s.take j) ≤ 1000 * (s.take j).length := fun j => sq_bd _ 1000 (by omega) _ fun y hy => (by have := hin y (List.mem_of_mem_take hy); exact hw y.toNat (by omega))
  have hsw := fun j hj => sq_take (gi ws) s j hj
  unfold iS
  (repeat (first | simp (maxSteps := 2000000) (disch := omega) only [go_sem, ↓reduceIte, Nat.reduceEqDiff, Nat.reduceAdd, Nat.reduceMul, Nat.reduceSub, Int.reduceToNat, Int.reduceAdd, Int.reduceSub, Int.reduceMul, Int.reduceNeg] | with_reducible refine vIf_t ?_ | with_reducible refine vIf_f ?_))
  refine vcLoop_invF (fun j : Nat => j ≤ s.length) (fun j => ⟨37, 0, [(6, I j), (1, .sl s.length (ints s)), (0, .sl ws.length (ints ws)), (5, I (sq (gi ws) (s.take j)))], []⟩) (fun j => s.length - j) 0 (by omega) (by simp only [List.take_zero, sq]; (first | (refine leF_s ?_; ((repeat (first | simp (maxSteps := 2000000) (disch := omega) only [go_sem, ↓reduceIte, Nat.reduceEqDiff, Nat.reduceAdd, Nat.reduceMul, Nat.reduceSub, Int.reduceToNat, Int.reduceAdd, Int.reduceSub, Int.reduceMul, Int.reduceNeg] | with_reducible refine vIf_t ?_ | with_reducible refine vIf_f ?_)); all_goals (try simp); all_goals (try omega)); done) | (refine leF_p ?_; ((repeat (first | simp (maxSteps := 2000000) (disch := omega) only [go_sem, ↓reduceIte, Nat.reduceEqDiff, Nat.reduceAdd, Nat.reduceMul, Nat.reduceSub, Int.reduceToNat, Int.reduceAdd, Int.reduceSub, Int.reduceMul, Int.reduceNeg] | with_reducible refine vIf_t ?_ | with_reducible refine vIf_f ?_)); all_goals (try simp); all_goals (try omega)); done))) ?_
  intro j hj
  have bwj := bw j
  rw [List.length_take_of_le hj] at bwj
  (repeat (first | simp (maxSteps := 2000000) (disch := omega) only [go_sem, ↓reduceIte, Nat.reduceEqDiff, Nat.reduceAdd, Nat.reduceMul, Nat.reduceSub, Int.reduceToNat, Int.reduceAdd, Int.reduceSub, Int.reduceMul, Int.reduceNeg] | with_reducible refine vIf_t ?_ | with_reducible refine vIf_f ?_))
  refine vIf_dec (fun h2 => ?_) (fun h2 => ?_)
  · have hjl : j < s.length := by omega
    have e2 := hsw j hjl
    have hg := hin (gi s j) (gi_mem s j hjl)
    have hlt2 : (gi s j).toNat < ws.length := by omega
    have hwo := hw _ hlt2
    have d1 : decide (0 ≤ gi s j) = true := decide_eq_true hg.1
    have d2 : decide (gi s j < ws.length) = true := decide_eq_true hg.2
    (repeat (first | simp (maxSteps := 2000000) (disch := omega) only [go_sem, ↓reduceIte, Nat.reduceEqDiff, Nat.reduceAdd, Nat.reduceMul, Nat.reduceSub, Int.reduceToNat, Int.reduceAdd, Int.reduceSub, Int.reduceMul, Int.reduceNeg, d1, d2] | with_reducible refine vIf_t ?_ | with_reducible refine vIf_f ?_))
    refine againF (j + 1) (by omega) (by omega) (by rw [e2]; (first | (refine leF_s ?_; ((repeat (first | simp (maxSteps := 2000000) (disch := omega) only [go_sem, ↓reduceIte, Nat.reduceEqDiff, Nat.reduceAdd, Nat.reduceMul, Nat.reduceSub, Int.reduceToNat, Int.reduceAdd, Int.reduceSub, Int.reduceMul, Int.reduceNeg] | with_reducible refine vIf_t ?_ | with_reducible refine vIf_f ?_)); all_goals (try simp); all_goals (try omega)); done) | (refine leF_p ?_; ((repeat (first | simp (maxSteps := 2000000) (disch := omega) only [go_sem, ↓reduceIte, Nat.reduceEqDiff, Nat.reduceAdd, Nat.reduceMul, Nat.reduceSub, Int.reduceToNat, Int.reduceAdd, Int.reduceSub, Int.reduceMul, Int.reduceNeg] | with_reducible refine vIf_t ?_ | with_reducible refine vIf_f ?_)); all_goals (try simp); all_goals (try omega)); done)))
  · have ej : j = s.length := by omega
    subst ej
    (repeat (first | simp (maxSteps := 2000000) (disch := omega) only [go_sem, ↓reduceIte, Nat.reduceEqDiff, Nat.reduceAdd, Nat.reduceMul, Nat.reduceSub, Int.reduceToNat, Int.reduceAdd, Int.reduceSub, Int.reduceMul, Int.reduceNeg] | with_reducible refine vIf_t ?_ | with_reducible refine vIf_f ?_))
    (refine retK_of ?_; (repeat (first | simp (maxSteps := 2000000) (disch := omega) only [go_sem, ↓reduceIte, Nat.reduceEqDiff, Nat.reduceAdd, Nat.reduceMul, Nat.reduceSub, Int.reduceToNat, Int.reduceAdd, Int.reduceSub, Int.reduceMul, Int.reduceNeg] | with_reducible refine vIf_t ?_ | with_reducible refine vIf_f ?_)))
    rw [List.take_length]
end Go.Proofs.YtkflbpojkccchaaDoor

/- guards: texts read, plain; guards: texts read: walks; guards: drawn lists, results frozen, rows of rows compared; facts for the law -/
import Derived.Test.YtfhckmlmfigfjaaGreatDoorT8
import Derived.Test.YtfhckmlmfigfjaaGreatDoorRepl
import Derived.Test.YtfhckmlmfigfjaaGreatDoorGrdE
import Derived.Lib.CutLaws
import Derived.Test.YtfhckmlmfigfjaaGreatDoorT6
import Derived.Test.YtfhckmlmfigfjaaGreatDoorGrd4
import Derived.Test.YtfhckmlmfigfjaaGreatDoorGrd9
import Derived.Test.YtfhckmlmfigfjaaGreatDoorF6
set_option linter.unusedVariables false
set_option linter.unusedSimpArgs false
namespace Go.Proofs.YtfhckmlmfigfjaaGreatDoor
open Go.AG Go.Lib

theorem cut_at (c : UInt8) (a r : List UInt8) (h : c ∉ a) : cut (a ++ c :: r) [c] = (a, r, true) := by
  unfold cut
  rw [index_at c r a h, if_pos (by omega)]
  simp
theorem cut_free (c : UInt8) (a : List UInt8) (h : c ∉ a) : cut a [c] = (a, [], false) := by
  unfold cut
  rw [index_free c a h, if_neg (by omega)]
/-- what stands behind the name -/
def gtR (g : Gd) : List UInt8 := itoa g.fr ++ [46, 46] ++ itoa g.tw
theorem gtT_eq (g : Gd) : gtT g = g.name.data.toList ++ 32 :: gtR g := by
  simp [gtT, gtR]
theorem gdB_free {g : Gd} (h : gdB g = true) : (32 : UInt8) ∉ g.name.data.toList := by
  unfold gdB nB nameB at h
  rw [Bool.and_eq_true, Bool.and_eq_true, decide_eq_true_eq, decide_eq_true_eq] at h
  intro hm
  obtain ⟨i, hi, e⟩ := List.mem_iff_getElem.1 hm
  have := h.1.2 i hi
  rw [List.getD_eq_getElem?_getD, List.getElem?_eq_getElem hi, Option.getD_some, e] at this
  simp [ncB, smB, dgB] at this
theorem gdB_size {g : Gd} (h : gdB g = true) : g.name.size ≤ 12 := by
  unfold gdB nB nameB at h
  rw [Bool.and_eq_true, Bool.and_eq_true, decide_eq_true_eq, decide_eq_true_eq] at h
  have : g.name.data.toList.length = g.name.size := by simp
  omega
theorem gdB_asc {g : Gd} (h : gdB g = true) : Asc g.name.data.toList := by
  unfold gdB nB nameB at h
  rw [Bool.and_eq_true, Bool.and_eq_true, decide_eq_true_eq, decide_eq_true_eq] at h
  intro c hm
  obtain ⟨i, hi, e⟩ := List.mem_iff_getElem.1 hm
  have := h.1.2 i hi
  rw [List.getD_eq_getElem?_getD, List.getElem?_eq_getElem hi, Option.getD_some, e] at this
  simp only [ncB, smB, dgB, Bool.or_eq_true, Bool.and_eq_true, decide_eq_true_eq] at this
  omega
theorem gtR_nums {g : Gd} (h1 : nOk g.fr) (h2 : nOk g.tw) : nums (gtR g) = [g.fr, g.tw] := by
  have e : gtR g = txN [([], g.fr), ([46, 46], g.tw)] [] := by simp [gtR, txN]
  rw [e]
  exact nums_of (flG_txN _ [] rfl rfl rfl) (by simp [h1, h2])
theorem gtT_inj {g h : Gd} (hg : gdB g = true) (hh : gdB h = true) (e : gtT g = gtT h) : g = h := by
  rw [gtT_eq, gtT_eq] at e
  have c1 := cut_at 32 _ (gtR g) (gdB_free hg)
  have c2 := cut_at 32 _ (gtR h) (gdB_free hh)
  rw [e, c2] at c1
  simp only [Prod.mk.injEq, and_true] at c1
  obtain ⟨en, er⟩ := c1
  obtain ⟨g1, g2⟩ := gdB_nok hg
  obtain ⟨h1, h2⟩ := gdB_nok hh
  have n1 := gtR_nums g1 g2
  rw [← er, gtR_nums h1 h2] at n1
  simp only [List.cons.injEq, and_true] at n1
  have := congrArg tx en
  rw [tx_list, tx_list] at this
  cases g; cases h
  simp only at *
  rw [this, n1.1, n1.2]
/-- the guard that a text is -/
noncomputable def rgO (l : List UInt8) : Option Gd := by
  classical exact if h : ∃ g, gdB g = true ∧ gtT g = l then some h.choose else none
theorem rgO_iff (l : List UInt8) (g : Gd) : rgO l = some g ↔ gdB g = true ∧ gtT g = l := by
  unfold rgO
  by_cases h : ∃ g, gdB g = true ∧ gtT g = l
  · rw [dif_pos h, Option.some.injEq]
    have hc := h.choose_spec
    constructor
    · intro e; rw [← e]; exact hc
    · intro hg; exact gtT_inj hc.1 hg.1 (hc.2.trans hg.2.symm)
  · rw [dif_neg h]
    constructor
    · intro e; cases e
    · intro hg; exact (h ⟨g, hg⟩).elim
theorem rgO_none {l : List UInt8} (h : ∀ g, gdB g = true → gtT g = l → False) : rgO l = none := by
  cases hr : rgO l with
  | none => rfl
  | some g => obtain ⟨a, b⟩ := (rgO_iff l g).1 hr; exact (h g a b).elim
def rgV : Option Gd → V
  | none => .tup [.agg [St (tx []), I 0, I 0], B false]
  | some g => .tup [.agg g.cells, B true]
theorem l_cut (c : UInt8) (l : List UInt8) : c ∉ l ∨ ∃ a r, c ∉ a ∧ l = a ++ c :: r := by
  induction l with
  | nil => exact .inl (by simp)
  | cons b l ih =>
    by_cases hb : b = c
    · exact .inr ⟨[], l, by simp, by rw [hb]; rfl⟩
    · rcases ih with ih | ⟨a, r, h1, h2⟩
      · exact .inl fun hm => (List.mem_cons.1 hm).elim (fun e => hb e.symm) ih
      · exact .inr ⟨b :: a, r, fun hm => (List.mem_cons.1 hm).elim (fun e => hb e.symm) h1, by rw [h2]; rfl⟩
/-- the parts of a guard's text -/
theorem gt_split {g : Gd} (h : gdB g = true) : splB 32 (gtT g) [] = [g.name.data.toList, gtR g] := by
  have hr : (32 : UInt8) ∉ gtR g := by
    unfold gtR
    simp only [List.mem_append, not_or]
    exact ⟨⟨itoa_free _ 32 rfl, by decide⟩, itoa_free _ 32 rfl⟩
  have := splB_joB 32 [g.name.data.toList, gtR g] (by simp) (by
    intro x hx
    simp only [List.mem_cons, List.not_mem_nil, or_false] at hx
    rcases hx with rfl | rfl
    · exact gdB_free h
    · exact hr)
  rw [← this, gtT_eq]
  rfl
theorem gr_split (g : Gd) : splB 46 (gtR g) [] = [itoa g.fr, [], itoa g.tw] := by
  have := splB_joB 46 [itoa g.fr, [], itoa g.tw] (by simp) (by
    intro x hx
    simp only [List.mem_cons, List.not_mem_nil, or_false] at hx
    rcases hx with rfl | rfl | rfl
    · exact itoa_free _ 46 rfl
    · simp
    · exact itoa_free _ 46 rfl)
  rw [← this]
  congr 1
  simp [gtR, joB]
theorem rgO_of {l w0 w1 v0 v2 : List UInt8} {a b : Int} (h1 : splB 32 l [] = [w0, w1]) (h2 : splB 46 w1 [] = [v0, [], v2]) (h3 : rdD v0 = some a) (h4 : rdD v2 = some b) (hb : gdB ⟨tx w0, a, b⟩ = true) : rgO l = some ⟨tx w0, a, b⟩ := by
  refine (rgO_iff l _).2 ⟨hb, ?_⟩
  have e3 := ((rdD_iff _ _).1 h3).1
  have e4 := ((rdD_iff _ _).1 h4).1
  have j1 := joB_splB 32 l []
  have j2 := joB_splB 46 w1 []
  rw [List.nil_append, h1] at j1
  rw [List.nil_append, h2] at j2
  rw [gtT_eq, ← j1, ← j2]
  simp [gtR, joB, e3, e4, list_tx]
/-- a text that is no guard's, by its parts -/
theorem rgO_no {l w0 w1 : List UInt8} {ws : List (List UInt8)} (h1 : splB 32 l [] = [w0, w1]) (h : ∀ v0 v2 a b, splB 46 w1 [] = [v0, [], v2] → rdD v0 = some a → rdD v2 = some b → gdB ⟨tx w0, a, b⟩ = true → False) : rgO l = none := by
  refine rgO_none fun g hb e => ?_
  subst e
  rw [gt_split hb] at h1
  simp only [List.cons.injEq, and_true] at h1
  obtain ⟨rfl, rfl⟩ := h1
  obtain ⟨n1, n2⟩ := gdB_nok hb
  refine h _ _ g.fr g.tw (gr_split g) (rdD_itoa _ n1) (rdD_itoa _ n2) ?_
  rw [tx_list]
  exact hb

end Go.Proofs.YtfhckmlmfigfjaaGreatDoor
namespace Go.Proofs.YtfhckmlmfigfjaaGreatDoor
open Go.AG Go.Lib Go.RowKit

attribute [local go_sem] beq_self_eq_true bne_self_eq_false Bool.not_true Bool.not_false
@[local go_sem] theorem mk_txG (l : List UInt8) : ByteArray.mk (List.toArray l) = tx l := rfl
theorem cutS_ok (l : List UInt8) (hl : l.length ≤ 1000000) : ACalls Tryz.prog 116 [St (tx l), St (tx [32])] [] (fun r o => r = .tup [St (tx (cut l [32]).1), St (tx (cut l [32]).2.1), B (cut l [32]).2.2] ∧ o = []) := by
  refine ACalls.lib (Q := fun r => r = .tup [St (tx (cut l [32]).1), St (tx (cut l [32]).2.1), B (cut l [32]).2.2]) (vals := [.string (tx l), .string (tx [32])]) ⟨_, Tryz.func116, by kernel_rfl, rfl⟩ rfl fun w X hL hX => ?_
  obtain ⟨m, hm⟩ := maxLen_of hL (by kernel_rfl)
  refine (Tryz.strings_Cut (tx l) (tx [32]) m w (by rw [tx_size]; omega) hm).mono ?_
  rintro e w' ⟨rfl, n, rfl⟩
  refine ⟨_, _, rfl, rfl, ⟨rfl, rfl, rfl, Nat.le_refl _, fun _ _ => rfl⟩, fun _ _ _ => .tup rfl fun i hi => ?_⟩
  match i, hi with
  | 0, _ => exact .d (.sc _)
  | 1, _ => exact .d (.sc _)
  | 2, _ => exact .d (.sc _)
theorem nums_nil : nums [] = [] := rfl
theorem rg_cut {a rest : List UInt8} (hf : (32 : UInt8) ∉ a) {q : Gd} (hb : gdB q = true) (e : gtT q = a ++ 32 :: rest) : q.name = tx a ∧ nums rest = [q.fr, q.tw] := by
  have c1 := cut_at 32 _ (gtR q) (gdB_free hb)
  have c2 := cut_at 32 a rest hf
  rw [← gtT_eq, e, c2] at c1
  simp only [Prod.mk.injEq, and_true] at c1
  obtain ⟨n1, n2⟩ := gdB_nok hb
  refine ⟨?_, ?_⟩
  · rw [← tx_list q.name, ← c1.1]
  · rw [c1.2, gtR_nums n1 n2]
set_option maxRecDepth 20000 in
set_option maxHeartbeats 4000000 in
theorem readG_ok (l : List UInt8) (ha : Asc l) (hl : l.length ≤ 10000) : ACalls Tryz.prog 21 [St (tx l)] [] (fun r o => r = rgV (rgO l) ∧ o = []) := by
  refine ACalls.of_vc Tryz.func21 rfl (by decide) 40 rfl [.cell 2 34, .tmp 3] rfl (by simp) ?_
  have hcut := cutS_ok l (by omega)
  rcases l_cut 32 l with hf | ⟨a, rest, hf, rfl⟩
  · rw [cut_free 32 l hf] at hcut
    simp only at hcut
    have hn := numbersX_ok [] (by simp) (by simp)
    rw [nums_nil] at hn
    have er : rgO l = none := rgO_none fun g hb e => hf (by rw [← e, gtT_eq]; simp)
    rw [er]
    (repeat (first | simp (maxSteps := 2000000) (disch := omega) only [go_sem, ↓reduceIte] | with_reducible refine vIf_t ?_ | with_reducible refine vIf_f ?_))
    (refine vCallX_of ?_; (repeat (first | simp (maxSteps := 2000000) (disch := omega) only [go_sem, ↓reduceIte] | with_reducible refine vIf_t ?_ | with_reducible refine vIf_f ?_)); refine vCall_eq (hcut) (by simp (disch := omega) only [go_sem]) rfl (by first | exact Or.inl rfl | exact Or.inr ⟨rfl, rfl⟩ | (apply Or.inr; simp only [go_sem])) ?_; (repeat (first | simp (maxSteps := 2000000) (disch := omega) only [go_sem, ↓reduceIte] | with_reducible refine vIf_t ?_ | with_reducible refine vIf_f ?_)))
    (refine vCallX_of ?_; (repeat (first | simp (maxSteps := 2000000) (disch := omega) only [go_sem, ↓reduceIte] | with_reducible refine vIf_t ?_ | with_reducible refine vIf_f ?_)); refine vCall_eq (hn) (by simp (disch := omega) only [go_sem]) rfl (by first | exact Or.inl rfl | exact Or.inr ⟨rfl, rfl⟩ | (apply Or.inr; simp only [go_sem])) ?_; (repeat (first | simp (maxSteps := 2000000) (disch := omega) only [go_sem, ↓reduceIte] | with_reducible refine vIf_t ?_ | with_reducible refine vIf_f ?_)))
    (try (repeat (first | simp (maxSteps := 2000000) (disch := omega) only [go_sem, ↓reduceIte] | with_reducible refine vIf_t ?_ | with_reducible refine vIf_f ?_)))
    (refine retK_of ?_; (repeat (first | simp (maxSteps := 2000000) (disch := omega) only [go_sem, ↓reduceIte] | with_reducible refine vIf_t ?_ | with_reducible refine vIf_f ?_)))
    try rfl
  rw [cut_at 32 a rest hf] at hcut
  simp only at hcut
  have hla : a.length + rest.length ≤ 10000 := by simp at hl; omega
  have hnum := numbersX_ok rest (fun b hb => ha b (by simp [hb])) (by omega)
  have hnl := (nums_ok rest).1
  have hfl := flG_len pn rest none
  by_cases h5 : (nums rest).length = 2
  · have c5 : (((nums rest).length : Int) != 2) = false := by simp; omega
    generalize hp : (⟨tx a, gi (nums rest) 0, gi (nums rest) 1⟩ : Gd) = g
    have hv := isGuard_ok g (by rw [← hp]; show (tx a).size ≤ _; rw [tx_size]; omega)
    have gn : tx a = g.name := by rw [← hp]
    have g0 : gi (nums rest) 0 = g.fr := by rw [← hp]
    have g1 : gi (nums rest) 1 = g.tw := by rw [← hp]
    have er : rgO (a ++ 32 :: rest) = if gdB g = true ∧ gtT g = a ++ 32 :: rest then some g else none := by
      by_cases h : gdB g = true ∧ gtT g = a ++ 32 :: rest
      · rw [if_pos h]; exact (rgO_iff _ _).2 h
      · rw [if_neg h]
        refine rgO_none fun q hb e => h ?_
        obtain ⟨e1, e2⟩ := rg_cut hf hb e
        have eq : q = g := by
          rw [e2] at hp
          rw [← hp]
          cases q
          simp only at e1
          rw [e1]
          rfl
        rw [← eq]
        exact ⟨hb, e⟩
    clear hp
    generalize hns : nums rest = ns at *
    generalize hll : a ++ 32 :: rest = l at *
    unfold Gd.cells at hv
    rw [gn] at hcut
    (repeat (first | simp (maxSteps := 2000000) (disch := omega) only [go_sem, ↓reduceIte] | with_reducible refine vIf_t ?_ | with_reducible refine vIf_f ?_))
    (refine vCallX_of ?_; (repeat (first | simp (maxSteps := 2000000) (disch := omega) only [go_sem, ↓reduceIte] | with_reducible refine vIf_t ?_ | with_reducible refine vIf_f ?_)); refine vCall_eq (hcut) (by simp (disch := omega) only [go_sem]) rfl (by first | exact Or.inl rfl | exact Or.inr ⟨rfl, rfl⟩ | (apply Or.inr; simp only [go_sem])) ?_; (repeat (first | simp (maxSteps := 2000000) (disch := omega) only [go_sem, ↓reduceIte] | with_reducible refine vIf_t ?_ | with_reducible refine vIf_f ?_)))
    (refine vCallX_of ?_; (repeat (first | simp (maxSteps := 2000000) (disch := omega) only [go_sem, ↓reduceIte] | with_reducible refine vIf_t ?_ | with_reducible refine vIf_f ?_)); refine vCall_eq (hnum) (by simp (disch := omega) only [go_sem]) rfl (by first | exact Or.inl rfl | exact Or.inr ⟨rfl, rfl⟩ | (apply Or.inr; simp only [go_sem])) ?_; (repeat (first | simp (maxSteps := 2000000) (disch := omega) only [go_sem, ↓reduceIte] | with_reducible refine vIf_t ?_ | with_reducible refine vIf_f ?_)))
    (try (repeat (first | simp (maxSteps := 2000000) (disch := omega) only [go_sem, ↓reduceIte, c5] | with_reducible refine vIf_t ?_ | with_reducible refine vIf_f ?_)))
    (refine vDraw_tr 9 (.rd 0 (.rd 1 (.rd 2 (.rd 3 (.rd 4 (.rd 5 (.rd 6 (.alt 7 (.alt 8 (.done) (.stop)) (.alt 8 (.alt 7 (.done) (.stop)) (.stop)))))))))) (fun _ : Unit => True) (fun _ => ⟨40, 0, [(2, .ptr 0 0), (0, St (tx l)), (8, .ptr 1 0), (28, .agg [St g.name, I g.fr, I g.tw])], [some ⟨3, [St (tx []), I 0, I 0]⟩, some ⟨3, [St (tx []), I 0, I 0]⟩]⟩) mixed (by kernel_rfl) ?_ ?_)
    · (repeat (first | simp (maxSteps := 2000000) (disch := omega) only [go_sem, ↓reduceIte, g0, g1] | with_reducible refine vIf_t ?_ | with_reducible refine vIf_f ?_))
      repeat' (first | refine And.intro ?_ ?_ | (refine ⟨(), leF_p ?_⟩; (repeat (first | simp (maxSteps := 2000000) (disch := omega) only [go_sem, ↓reduceIte, g0, g1] | with_reducible refine vIf_t ?_ | with_reducible refine vIf_f ?_))))
    · intro _ _
      simp only [List.drop_succ_cons, List.drop_zero, List.drop_nil]
      (repeat (first | simp (maxSteps := 2000000) (disch := omega) only [go_sem, ↓reduceIte] | with_reducible refine vIf_t ?_ | with_reducible refine vIf_f ?_))
      cases hw : gdB g with
      | false =>
        rw [hw] at hv
        rw [er, if_neg (by simp [hw])]
        (refine vCallX_of ?_; (repeat (first | simp (maxSteps := 2000000) (disch := omega) only [go_sem, ↓reduceIte] | with_reducible refine vIf_t ?_ | with_reducible refine vIf_f ?_)); refine vCall_eq (hv) (by simp (disch := omega) only [go_sem]) rfl (by first | exact Or.inl rfl | exact Or.inr ⟨rfl, rfl⟩ | (apply Or.inr; simp only [go_sem])) ?_; (repeat (first | simp (maxSteps := 2000000) (disch := omega) only [go_sem, ↓reduceIte] | with_reducible refine vIf_t ?_ | with_reducible refine vIf_f ?_)))
        (refine retK_of ?_; (repeat (first | simp (maxSteps := 2000000) (disch := omega) only [go_sem, ↓reduceIte] | with_reducible refine vIf_t ?_ | with_reducible refine vIf_f ?_)))
        try rfl
      | true =>
        rw [hw] at hv
        have ht := guardText_ok g (by have := gdB_size hw; omega)
        rw [if_pos hw] at ht
        unfold Gd.cells at ht
        (refine vCallX_of ?_; (repeat (first | simp (maxSteps := 2000000) (disch := omega) only [go_sem, ↓reduceIte] | with_reducible refine vIf_t ?_ | with_reducible refine vIf_f ?_)); refine vCall_eq (hv) (by simp (disch := omega) only [go_sem]) rfl (by first | exact Or.inl rfl | exact Or.inr ⟨rfl, rfl⟩ | (apply Or.inr; simp only [go_sem])) ?_; (repeat (first | simp (maxSteps := 2000000) (disch := omega) only [go_sem, ↓reduceIte] | with_reducible refine vIf_t ?_ | with_reducible refine vIf_f ?_)))
        by_cases e : gtT g = l
        · rw [er, if_pos ⟨hw, e⟩]
          rw [e] at ht
          (refine vCallX_of ?_; (repeat (first | simp (maxSteps := 2000000) (disch := omega) only [go_sem, ↓reduceIte] | with_reducible refine vIf_t ?_ | with_reducible refine vIf_f ?_)); refine vCall_eq (ht) (by simp (disch := omega) only [go_sem]) rfl (by first | exact Or.inl rfl | exact Or.inr ⟨rfl, rfl⟩ | (apply Or.inr; simp only [go_sem])) ?_; (repeat (first | simp (maxSteps := 2000000) (disch := omega) only [go_sem, ↓reduceIte] | with_reducible refine vIf_t ?_ | with_reducible refine vIf_f ?_)))
          (refine retK_of ?_; (repeat (first | simp (maxSteps := 2000000) (disch := omega) only [go_sem, ↓reduceIte] | with_reducible refine vIf_t ?_ | with_reducible refine vIf_f ?_)))
          try rfl
        · have nb := tx_bq e
          rw [er, if_neg (fun h => e h.2)]
          (refine vCallX_of ?_; (repeat (first | simp (maxSteps := 2000000) (disch := omega) only [go_sem, ↓reduceIte] | with_reducible refine vIf_t ?_ | with_reducible refine vIf_f ?_)); refine vCall_eq (ht) (by simp (disch := omega) only [go_sem]) rfl (by first | exact Or.inl rfl | exact Or.inr ⟨rfl, rfl⟩ | (apply Or.inr; simp only [go_sem])) ?_; (repeat (first | simp (maxSteps := 2000000) (disch := omega) only [go_sem, ↓reduceIte] | with_reducible refine vIf_t ?_ | with_reducible refine vIf_f ?_)))
          (try (repeat (first | simp (maxSteps := 2000000) (disch := omega) only [go_sem, ↓reduceIte, nb] | with_reducible refine vIf_t ?_ | with_reducible refine vIf_f ?_)))
          (refine retK_of ?_; (repeat (first | simp (maxSteps := 2000000) (disch := omega) only [go_sem, ↓reduceIte] | with_reducible refine vIf_t ?_ | with_reducible refine vIf_f ?_)))
          try rfl
  · have c5 : (((nums rest).length : Int) != 2) = true := by simp; omega
    have er : rgO (a ++ 32 :: rest) = none := rgO_none fun q hb e => h5 (by rw [(rg_cut hf hb e).2]; rfl)
    rw [er]
    (repeat (first | simp (maxSteps := 2000000) (disch := omega) only [go_sem, ↓reduceIte] | with_reducible refine vIf_t ?_ | with_reducible refine vIf_f ?_))
    (refine vCallX_of ?_; (repeat (first | simp (maxSteps := 2000000) (disch := omega) only [go_sem, ↓reduceIte] | with_reducible refine vIf_t ?_ | with_reducible refine vIf_f ?_)); refine vCall_eq (hcut) (by simp (disch := omega) only [go_sem]) rfl (by first | exact Or.inl rfl | exact Or.inr ⟨rfl, rfl⟩ | (apply Or.inr; simp only [go_sem])) ?_; (repeat (first | simp (maxSteps := 2000000) (disch := omega) only [go_sem, ↓reduceIte] | with_reducible refine vIf_t ?_ | with_reducible refine vIf_f ?_)))
    (refine vCallX_of ?_; (repeat (first | simp (maxSteps := 2000000) (disch := omega) only [go_sem, ↓reduceIte] | with_reducible refine vIf_t ?_ | with_reducible refine vIf_f ?_)); refine vCall_eq (hnum) (by simp (disch := omega) only [go_sem]) rfl (by first | exact Or.inl rfl | exact Or.inr ⟨rfl, rfl⟩ | (apply Or.inr; simp only [go_sem])) ?_; (repeat (first | simp (maxSteps := 2000000) (disch := omega) only [go_sem, ↓reduceIte] | with_reducible refine vIf_t ?_ | with_reducible refine vIf_f ?_)))
    (try (repeat (first | simp (maxSteps := 2000000) (disch := omega) only [go_sem, ↓reduceIte, c5] | with_reducible refine vIf_t ?_ | with_reducible refine vIf_f ?_)))
    (refine retK_of ?_; (repeat (first | simp (maxSteps := 2000000) (disch := omega) only [go_sem, ↓reduceIte] | with_reducible refine vIf_t ?_ | with_reducible refine vIf_f ?_)))
    try rfl
theorem rdR_EG (o : Option Int) : rdR o = .tup [I (o.getD 0), B o.isSome] := by cases o <;> rfl
theorem l01NumG_ok (l : List UInt8) (hl : l.length ≤ 100000) : ACalls Tryz.prog 121 [St (tx l)] [] (fun r o => r = .tup [I ((rdD l).getD 0), B (rdD l).isSome] ∧ o = []) := by
  have h := l01Number_ok l hl
  rw [rdR_EG] at h
  exact h
theorem splB_mlenG (b : UInt8) (l : List UInt8) : ∀ x ∈ splB b l [], x.length ≤ l.length := by
  have key : ∀ (l cur : List UInt8), ∀ x ∈ splB b l cur, x.length ≤ cur.length + l.length := by
    intro l
    induction l with
    | nil => intro cur; simp [splB]
    | cons c r ih =>
      intro cur
      simp only [splB]
      split
      · intro x hx
        rcases List.mem_cons.1 hx with rfl | hx
        · omega
        · have := ih [] x hx; simp at this ⊢; omega
      · intro x hx; have := ih (cur ++ [c]) x hx; simp at this ⊢; omega
  intro x hx
  have := key l [] x hx
  simpa using this
set_option maxRecDepth 20000 in
set_option maxHeartbeats 8000000 in
theorem readGS_ok (l : List UInt8) (hl : l.length ≤ 10000) : ACalls Tryz.prog 23 [St (tx l)] [] (fun r o => r = rgV (rgO l) ∧ o = []) := by
  refine ACalls.of_vc Tryz.func23 rfl (by decide) 63 rfl [.cell 2 34, .tmp 3] rfl (by simp) ?_
  have hsp := l01Split_ok l 32 (by omega)
  have h32 : ((32 : UInt8).toNat : Int) = 32 := rfl
  rw [h32] at hsp
  have hsl := splB_len 32 l []
  have hml := splB_mlenG 32 l
  have hno := @rgO_no l
  have hyes := @rgO_of l
  have h2 : ∀ g, gdB g = true → gtT g = l → (splB 32 l []).length = 2 := fun g hb e => by rw [← e, gt_split hb]; rfl
  generalize splB 32 l [] = ws at *
  (repeat (first | simp (maxSteps := 2000000) (disch := omega) only [go_sem, ↓reduceIte] | with_reducible refine vIf_t ?_ | with_reducible refine vIf_f ?_))
  (refine vCallX_of ?_; (repeat (first | simp (maxSteps := 2000000) (disch := omega) only [go_sem, ↓reduceIte] | with_reducible refine vIf_t ?_ | with_reducible refine vIf_f ?_)); refine vCall_eq (hsp) (by simp (disch := omega) only [go_sem]) rfl (by first | exact Or.inl rfl | exact Or.inr ⟨rfl, rfl⟩ | (apply Or.inr; simp only [go_sem])) ?_; (repeat (first | simp (maxSteps := 2000000) (disch := omega) only [go_sem, ↓reduceIte] | with_reducible refine vIf_t ?_ | with_reducible refine vIf_f ?_)))
  by_cases h7 : ws.length = 2
  case neg =>
    have c7 : ((ws.length : Int) != 2) = true := by simp; omega
    rw [rgO_none (fun g hb e => h7 (h2 g hb e))]
    (try (repeat (first | simp (maxSteps := 2000000) (disch := omega) only [go_sem, ↓reduceIte, c7] | with_reducible refine vIf_t ?_ | with_reducible refine vIf_f ?_)))
    (refine retK_of ?_; (repeat (first | simp (maxSteps := 2000000) (disch := omega) only [go_sem, ↓reduceIte] | with_reducible refine vIf_t ?_ | with_reducible refine vIf_f ?_)))
    try rfl
  match ws, h7 with
  | [w0, w1], _ =>
    have g0 : gs [tx w0, tx w1] 0 = tx w0 := rfl
    have g1 : gs [tx w0, tx w1] 1 = tx w1 := rfl
    have c7 : (((([w0, w1] : List (List UInt8)).length : Nat) : Int) != 2) = false := rfl
    have l0 := hml w0 (by simp)
    have l1 := hml w1 (by simp)
    have hsp2 := l01Split_ok w1 46 (by omega)
    have h46 : ((46 : UInt8).toNat : Int) = 46 := rfl
    rw [h46] at hsp2
    have hsl2 := splB_len 46 w1 []
    have hml2 := splB_mlenG 46 w1
    have no := @hno w0 w1 [] rfl
    have yes := fun {v0 v2 : List UInt8} {a b : Int} => @hyes w0 w1 v0 v2 a b rfl
    generalize splB 46 w1 [] = vs at *
    (try (repeat (first | simp (maxSteps := 2000000) (disch := omega) only [go_sem, ↓reduceIte, c7, g0, g1] | with_reducible refine vIf_t ?_ | with_reducible refine vIf_f ?_)))
    (repeat (first | simp (maxSteps := 2000000) (disch := omega) only [go_sem, ↓reduceIte, g1] | with_reducible refine vIf_t ?_ | with_reducible refine vIf_f ?_))
    (refine vCallX_of ?_; (repeat (first | simp (maxSteps := 2000000) (disch := omega) only [go_sem, ↓reduceIte] | with_reducible refine vIf_t ?_ | with_reducible refine vIf_f ?_)); refine vCall_eq (hsp2) (by simp (disch := omega) only [go_sem]) rfl (by first | exact Or.inl rfl | exact Or.inr ⟨rfl, rfl⟩ | (apply Or.inr; simp only [go_sem])) ?_; (repeat (first | simp (maxSteps := 2000000) (disch := omega) only [go_sem, ↓reduceIte] | with_reducible refine vIf_t ?_ | with_reducible refine vIf_f ?_)))
    by_cases h3 : vs.length = 3
    case neg =>
      have c3 : ((vs.length : Int) != 3) = true := by simp; omega
      rw [no (fun v0 v2 a b e _ _ _ => h3 (by rw [e]; rfl))]
      (try (repeat (first | simp (maxSteps := 2000000) (disch := omega) only [go_sem, ↓reduceIte, c3] | with_reducible refine vIf_t ?_ | with_reducible refine vIf_f ?_)))
      (refine retK_of ?_; (repeat (first | simp (maxSteps := 2000000) (disch := omega) only [go_sem, ↓reduceIte] | with_reducible refine vIf_t ?_ | with_reducible refine vIf_f ?_)))
      try rfl
    match vs, h3 with
    | [v0, v1, v2], _ =>
      have k0 : gs [tx v0, tx v1, tx v2] 0 = tx v0 := rfl
      have k1 : gs [tx v0, tx v1, tx v2] 1 = tx v1 := rfl
      have k2 : gs [tx v0, tx v1, tx v2] 2 = tx v2 := rfl
      have c3 : (((([v0, v1, v2] : List (List UInt8)).length : Nat) : Int) != 3) = false := rfl
      (try (repeat (first | simp (maxSteps := 2000000) (disch := omega) only [go_sem, ↓reduceIte, c3, k1] | with_reducible refine vIf_t ?_ | with_reducible refine vIf_f ?_)))
      by_cases e1 : v1 = []
      case neg =>
        have nb := tx_bq e1
        rw [no (fun v0' v2' a b e _ _ _ => e1 (by simp only [List.cons.injEq] at e; exact e.2.1))]
        (try (repeat (first | simp (maxSteps := 2000000) (disch := omega) only [go_sem, ↓reduceIte, nb] | with_reducible refine vIf_t ?_ | with_reducible refine vIf_f ?_)))
        (refine retK_of ?_; (repeat (first | simp (maxSteps := 2000000) (disch := omega) only [go_sem, ↓reduceIte] | with_reducible refine vIf_t ?_ | with_reducible refine vIf_f ?_)))
        try rfl
      subst e1
      have m0 := hml2 v0 (by simp)
      have m2 := hml2 v2 (by simp)
      have n1 := l01NumG_ok v0 (by omega)
      have n2 := l01NumG_ok v2 (by omega)
      (repeat (first | simp (maxSteps := 2000000) (disch := omega) only [go_sem, ↓reduceIte, k0, k2] | with_reducible refine vIf_t ?_ | with_reducible refine vIf_f ?_))
      (refine vCallX_of ?_; (repeat (first | simp (maxSteps := 2000000) (disch := omega) only [go_sem, ↓reduceIte] | with_reducible refine vIf_t ?_ | with_reducible refine vIf_f ?_)); refine vCall_eq (n1) (by simp (disch := omega) only [go_sem]) rfl (by first | exact Or.inl rfl | exact Or.inr ⟨rfl, rfl⟩ | (apply Or.inr; simp only [go_sem])) ?_; (repeat (first | simp (maxSteps := 2000000) (disch := omega) only [go_sem, ↓reduceIte] | with_reducible refine vIf_t ?_ | with_reducible refine vIf_f ?_)))
      (repeat (first | simp (maxSteps := 2000000) (disch := omega) only [go_sem, ↓reduceIte, k0, k2] | with_reducible refine vIf_t ?_ | with_reducible refine vIf_f ?_))
      (refine vCallX_of ?_; (repeat (first | simp (maxSteps := 2000000) (disch := omega) only [go_sem, ↓reduceIte] | with_reducible refine vIf_t ?_ | with_reducible refine vIf_f ?_)); refine vCall_eq (n2) (by simp (disch := omega) only [go_sem]) rfl (by first | exact Or.inl rfl | exact Or.inr ⟨rfl, rfl⟩ | (apply Or.inr; simp only [go_sem])) ?_; (repeat (first | simp (maxSteps := 2000000) (disch := omega) only [go_sem, ↓reduceIte] | with_reducible refine vIf_t ?_ | with_reducible refine vIf_f ?_)))
      (repeat (first | simp (maxSteps := 2000000) (disch := omega) only [go_sem, ↓reduceIte, k0, k2, g0] | with_reducible refine vIf_t ?_ | with_reducible refine vIf_f ?_))
      cases r1 : rdD v0 with
      | none =>
        rw [no (fun v0' v2' a b e h1 h2 _ => by simp only [List.cons.injEq] at e; rw [← e.1, r1] at h1; cases h1)]
        (try (repeat (first | simp (maxSteps := 2000000) (disch := omega) only [go_sem, ↓reduceIte, r1, Option.isSome_none] | with_reducible refine vIf_t ?_ | with_reducible refine vIf_f ?_)))
        (refine retK_of ?_; (repeat (first | simp (maxSteps := 2000000) (disch := omega) only [go_sem, ↓reduceIte] | with_reducible refine vIf_t ?_ | with_reducible refine vIf_f ?_)))
        try rfl
      | some a =>
        cases r2 : rdD v2 with
        | none =>
          rw [no (fun v0' v2' a b e h1 h2 _ => by simp only [List.cons.injEq] at e; rw [← e.2.2.1, r2] at h2; cases h2)]
          (try (repeat (first | simp (maxSteps := 2000000) (disch := omega) only [go_sem, ↓reduceIte, r1, r2, Option.isSome_none, Option.isSome_some] | with_reducible refine vIf_t ?_ | with_reducible refine vIf_f ?_)))
          (refine retK_of ?_; (repeat (first | simp (maxSteps := 2000000) (disch := omega) only [go_sem, ↓reduceIte] | with_reducible refine vIf_t ?_ | with_reducible refine vIf_f ?_)))
          try rfl
        | some b =>
          have hv := one17_ok [⟨tx w0, a, b⟩] 0 (by simp) (show (tx w0).size ≤ 100000 by rw [tx_size]; omega)
          rw [show gGd [(⟨tx w0, a, b⟩ : Gd)] 0 = ⟨tx w0, a, b⟩ from rfl, show cGd [(⟨tx w0, a, b⟩ : Gd)] = [.sc (.string (tx w0)), I a, I b] from rfl] at hv
          cases hb : gdB ⟨tx w0, a, b⟩ with
          | true =>
            rw [hb] at hv
            rw [yes rfl r1 r2 hb]
            (try (repeat (first | simp (maxSteps := 2000000) (disch := omega) only [go_sem, ↓reduceIte, r1, r2, Option.isSome_some, Option.getD_some] | with_reducible refine vIf_t ?_ | with_reducible refine vIf_f ?_)))
            (refine vCallX_fz 3 _ rfl (by (repeat (first | simp (maxSteps := 2000000) (disch := omega) only [go_sem, ↓reduceIte] | with_reducible refine vIf_t ?_ | with_reducible refine vIf_f ?_))) ?_; (repeat (first | simp (maxSteps := 2000000) (disch := omega) only [go_sem, ↓reduceIte] | with_reducible refine vIf_t ?_ | with_reducible refine vIf_f ?_)))
            (refine vCallX_of ?_; (repeat (first | simp (maxSteps := 2000000) (disch := omega) only [go_sem, ↓reduceIte] | with_reducible refine vIf_t ?_ | with_reducible refine vIf_f ?_)); refine vCall_eq (hv) (by simp (disch := omega) only [go_sem]) rfl (by first | exact Or.inl rfl | exact Or.inr ⟨rfl, rfl⟩ | (apply Or.inr; simp only [go_sem])) ?_; (repeat (first | simp (maxSteps := 2000000) (disch := omega) only [go_sem, ↓reduceIte] | with_reducible refine vIf_t ?_ | with_reducible refine vIf_f ?_)))
            (refine retK_of ?_; (repeat (first | simp (maxSteps := 2000000) (disch := omega) only [go_sem, ↓reduceIte] | with_reducible refine vIf_t ?_ | with_reducible refine vIf_f ?_)))
            try rfl
          | false =>
            rw [hb] at hv
            rw [no (fun v0' v2' a' b' e h1 h2 h3 => by
              simp only [List.cons.injEq] at e
              rw [← e.1, r1] at h1
              rw [← e.2.2.1, r2] at h2
              simp only [Option.some.injEq] at h1 h2
              rw [← h1, ← h2, hb] at h3
              cases h3)]
            (try (repeat (first | simp (maxSteps := 2000000) (disch := omega) only [go_sem, ↓reduceIte, r1, r2, Option.isSome_some, Option.getD_some] | with_reducible refine vIf_t ?_ | with_reducible refine vIf_f ?_)))
            (refine vCallX_fz 3 _ rfl (by (repeat (first | simp (maxSteps := 2000000) (disch := omega) only [go_sem, ↓reduceIte] | with_reducible refine vIf_t ?_ | with_reducible refine vIf_f ?_))) ?_; (repeat (first | simp (maxSteps := 2000000) (disch := omega) only [go_sem, ↓reduceIte] | with_reducible refine vIf_t ?_ | with_reducible refine vIf_f ?_)))
            (refine vCallX_of ?_; (repeat (first | simp (maxSteps := 2000000) (disch := omega) only [go_sem, ↓reduceIte] | with_reducible refine vIf_t ?_ | with_reducible refine vIf_f ?_)); refine vCall_eq (hv) (by simp (disch := omega) only [go_sem]) rfl (by first | exact Or.inl rfl | exact Or.inr ⟨rfl, rfl⟩ | (apply Or.inr; simp only [go_sem])) ?_; (repeat (first | simp (maxSteps := 2000000) (disch := omega) only [go_sem, ↓reduceIte] | with_reducible refine vIf_t ?_ | with_reducible refine vIf_f ?_)))
            (refine retK_of ?_; (repeat (first | simp (maxSteps := 2000000) (disch := omega) only [go_sem, ↓reduceIte] | with_reducible refine vIf_t ?_ | with_reducible refine vIf_f ?_)))
            try rfl
end Go.Proofs.YtfhckmlmfigfjaaGreatDoor
namespace Go.Proofs.YtfhckmlmfigfjaaGreatDoor
open Go.AG Go.Lib

attribute [local go_sem] beq_self_eq_true bne_self_eq_false Bool.not_true Bool.not_false
@[local go_sem] theorem mk_txH (l : List UInt8) : ByteArray.mk (List.toArray l) = tx l := rfl
@[local go_sem] theorem reps_gdH (n : Nat) : reps n [V.sc (.string (tx [])), V.sc (.int .i64 0), V.sc (.int .i64 0)] = cGd (List.replicate n ⟨tx [], 0, 0⟩) := reps_cGd n
@[local go_sem] theorem vAt_gd02 (ds : List Gd) (K : V → Prop) : vAt (cGd ds) 2 K = grd (0 < ds.length) (K (.sc (.int .i64 (gGd ds 0).tw))) := vAt_cGd_2 ds 0 K
@[local go_sem] theorem take_gd1 (ds : List Gd) (x : Gd) : List.take (ds.length + 1) (ds ++ [x]) = ds ++ [x] := List.take_of_length_le (by simp)
@[local go_sem] theorem wr_gd02 (ds : List Gd) (x : Int) (h : 0 < ds.length) : wr (cGd ds) 2 [.sc (.int .i64 x)] = cGd (ds.set 0 {gGd ds 0 with tw := x}) := wr_cGd_2 ds 0 x h
theorem OwG.fz {P : Program} {f : FuncId} {args : List V} {xs : List Gd} {c : Int} (h : ACalls P f args [] (OwG xs c)) : ACalls P f args [] (fun r o => r = .tup [.sl xs.length (cGd xs), I c] ∧ o = []) := by
  have h1 : ACalls P f args [] (fun r o => (r = .tup [.sl xs.length (cGd xs), I c] ∧ o = []) ∨ (xs = [] ∧ r = .tup [.sc (.slice none 0 0), I c] ∧ o = [])) := by
    refine h.fz ?_
    rintro r o (⟨rfl, rfl⟩ | ⟨h1, rfl, rfl⟩)
    · refine ⟨.tup [.sl xs.length (cGd xs), I c], .step 0 ⟨3, cGd xs⟩ rfl (by (repeat (first | simp (maxSteps := 2000000) (disch := omega) only [go_sem, ↓reduceIte] | with_reducible refine vIf_t ?_ | with_reducible refine vIf_f ?_))) ?_, .inl ⟨rfl, rfl⟩⟩
      (repeat (first | simp (maxSteps := 2000000) (disch := omega) only [go_sem, ↓reduceIte] | with_reducible refine vIf_t ?_ | with_reducible refine vIf_f ?_))
      exact .done rfl
    · exact ⟨_, .done rfl, .inr ⟨h1, rfl, rfl⟩⟩
  refine h1.leD ?_
  rintro r o (⟨rfl, rfl⟩ | ⟨h1, rfl, rfl⟩)
  · exact ⟨_, .le (V.le_refl _), rfl, rfl⟩
  · subst h1
    exact ⟨_, LeD.tup' (leD_nilS (leD_same _ leD_nil)), rfl, rfl⟩
theorem RwsR.fz {P : Program} {f : FuncId} {args : List V} {xs : List (List Int)} {c : Int} (h : ACalls P f args [] (RwsR xs c)) : ACalls P f args [] (fun r o => r = .tup [.sl xs.length (rws xs), I c] ∧ o = []) := by
  have h1 : ACalls P f args [] (fun r o => (r = .tup [.sl xs.length (rws xs), I c] ∧ o = []) ∨ (xs = [] ∧ r = .tup [.sc (.slice none 0 0), I c] ∧ o = [])) := by
    refine h.fz ?_
    rintro r o (⟨rfl, rfl⟩ | ⟨h1, rfl, rfl⟩)
    · refine ⟨.tup [.sl xs.length (rws xs), I c], .step 0 ⟨1, rws xs⟩ rfl (by (repeat (first | simp (maxSteps := 2000000) (disch := omega) only [go_sem, ↓reduceIte] | with_reducible refine vIf_t ?_ | with_reducible refine vIf_f ?_))) ?_, .inl ⟨rfl, rfl⟩⟩
      (repeat (first | simp (maxSteps := 2000000) (disch := omega) only [go_sem, ↓reduceIte] | with_reducible refine vIf_t ?_ | with_reducible refine vIf_f ?_))
      exact .done rfl
    · exact ⟨_, .done rfl, .inr ⟨h1, rfl, rfl⟩⟩
  refine h1.leD ?_
  rintro r o (⟨rfl, rfl⟩ | ⟨h1, rfl, rfl⟩)
  · exact ⟨_, .le (V.le_refl _), rfl, rfl⟩
  · subst h1
    exact ⟨_, LeD.tup' (leD_nilS (leD_same _ leD_nil)), rfl, rfl⟩
set_option maxHeartbeats 1000000 in
theorem f6lists_ok (xs : List (List Int)) (hl : xs.length ≤ 10000000) (hr : ∀ i, i < xs.length → (gr xs i).length ≤ 10000000) : ACalls Tryz.prog 26 [.sl xs.length (rws xs), .sl xs.length (rws xs)] [] (fun r o => r = B true ∧ o = []) := by
  refine ACalls.of_vc Tryz.func26 rfl (by decide) 27 rfl [.tmp 4] rfl (by simp) ?_
  (repeat (first | simp (maxSteps := 2000000) (disch := omega) only [go_sem, ↓reduceIte] | with_reducible refine vIf_t ?_ | with_reducible refine vIf_f ?_))
  refine vcLoop_inv (fun k : Nat => k ≤ xs.length) (fun k => ⟨27, 0, [(5, I k), (0, .sl xs.length (rws xs)), (1, .sl xs.length (rws xs))], []⟩) (fun k => xs.length - k) 0 (by omega) (by (repeat (first | simp (maxSteps := 2000000) (disch := omega) only [go_sem, ↓reduceIte] | with_reducible refine vIf_t ?_ | with_reducible refine vIf_f ?_)); all_goals (try simp)) ?_
  intro k hk
  (repeat (first | simp (maxSteps := 2000000) (disch := omega) only [go_sem, ↓reduceIte] | with_reducible refine vIf_t ?_ | with_reducible refine vIf_f ?_))
  refine vIf_dec (fun h2 => ?_) (fun h2 => ?_)
  · have hs := f6same_ok (gr xs k) (hr k (by omega))
    (repeat (first | simp (maxSteps := 2000000) (disch := omega) only [go_sem, ↓reduceIte] | with_reducible refine vIf_t ?_ | with_reducible refine vIf_f ?_))
    (refine vDraw_sch 8 [(0, false), (1, false), (2, false), (4, false), (5, false), (6, false), (3, false), (7, true)] mixed (by kernel_rfl) ?_; simp only [List.cons_append, List.nil_append, List.map_cons, List.map_nil, nthO_zero, nthO_succ, List.drop_succ_cons, List.drop_zero, List.drop_nil]; (repeat (first | simp (maxSteps := 2000000) (disch := omega) only [go_sem, ↓reduceIte] | with_reducible refine vIf_t ?_ | with_reducible refine vIf_f ?_)))
    (refine vCallX_of ?_; (repeat (first | simp (maxSteps := 2000000) (disch := omega) only [go_sem, ↓reduceIte] | with_reducible refine vIf_t ?_ | with_reducible refine vIf_f ?_)); refine vCall_eq (hs) (by simp (disch := omega) only [go_sem]) rfl (by first | exact Or.inl rfl | exact Or.inr ⟨rfl, rfl⟩ | (apply Or.inr; simp only [go_sem])) ?_; (repeat (first | simp (maxSteps := 2000000) (disch := omega) only [go_sem, ↓reduceIte] | with_reducible refine vIf_t ?_ | with_reducible refine vIf_f ?_)))
    (try (repeat (first | simp (maxSteps := 2000000) (disch := omega) only [go_sem, ↓reduceIte] | with_reducible refine vIf_t ?_ | with_reducible refine vIf_f ?_)))
    refine again (k + 1) (by omega) (by omega) ?_
    ((repeat (first | simp (maxSteps := 2000000) (disch := omega) only [go_sem, ↓reduceIte] | with_reducible refine vIf_t ?_ | with_reducible refine vIf_f ?_)); all_goals (try simp); all_goals (try omega))
  · (repeat (first | simp (maxSteps := 2000000) (disch := omega) only [go_sem, ↓reduceIte] | with_reducible refine vIf_t ?_ | with_reducible refine vIf_f ?_))
    (refine retK_of ?_; (repeat (first | simp (maxSteps := 2000000) (disch := omega) only [go_sem, ↓reduceIte] | with_reducible refine vIf_t ?_ | with_reducible refine vIf_f ?_)))
set_option maxRecDepth 20000 in
set_option maxHeartbeats 4000000 in
theorem drawSG_e {code : List Int} (g : SrOk code) : ACalls Tryz.prog 24 [bS code] [] (fun r o => ∃ (xs ys : List Gd), r = .tup [.sl xs.length (cGd xs), .sl ys.length (cGd ys)] ∧ o = [] ∧ xs.length ≤ 10 ∧ ys.length ≤ 10) := by
  refine ACalls.of_vc Tryz.func24 rfl (by decide) 38 rfl [.tmp 2, .tmp 3] rfl (by simp) ?_
  have hf := from_e g
  unfold bS at hf ⊢
  (repeat (first | simp (maxSteps := 2000000) (disch := omega) only [go_sem, ↓reduceIte] | with_reducible refine vIf_t ?_ | with_reducible refine vIf_f ?_))
  (refine vCallX_of ?_; (repeat (first | simp (maxSteps := 2000000) (disch := omega) only [go_sem, ↓reduceIte] | with_reducible refine vIf_t ?_ | with_reducible refine vIf_f ?_)); refine vCall_eq (hf) (by simp (disch := omega) only [go_sem]) rfl (by first | exact Or.inl rfl | exact Or.inr ⟨rfl, rfl⟩ | (apply Or.inr; simp only [go_sem])) ?_; (repeat (first | simp (maxSteps := 2000000) (disch := omega) only [go_sem, ↓reduceIte] | with_reducible refine vIf_t ?_ | with_reducible refine vIf_f ?_)))
  (refine vCallX_io [0] ?_; (repeat (first | simp (maxSteps := 2000000) (disch := omega) only [go_sem, ↓reduceIte] | with_reducible refine vIf_t ?_ | with_reducible refine vIf_f ?_)); refine vCallIO_ex (l17Draw_e g ⟨0, 0⟩ (by simp)) (by simp (disch := omega) only [go_sem]) (by simp (disch := omega) only [go_sem]) (by first | rfl | (simp (disch := omega) only [go_sem])) (by first | rfl | (simp (disch := omega) only [go_sem])) (by first | rfl | (simp (disch := omega) only [go_sem])) ?_); rintro _ _ ⟨ds, σ1, rfl, rfl, h0, hn, h1⟩; (refine ⟨by first | (simp (disch := omega) only [go_sem]) | trivial, ?_⟩; (repeat (first | simp (maxSteps := 2000000) (disch := omega) only [go_sem, ↓reduceIte] | with_reducible refine vIf_t ?_ | with_reducible refine vIf_f ?_)))
  simp only at h1
  by_cases hne : 0 < ds.length
  case neg =>
    have d0 : decide (0 < (ds.length : Int)) = false := decide_eq_false (by omega)
    (repeat (first | simp (maxSteps := 2000000) (disch := omega) only [go_sem, ↓reduceIte, d0] | with_reducible refine vIf_t ?_ | with_reducible refine vIf_f ?_))
    (try (repeat (first | simp (maxSteps := 2000000) (disch := omega) only [go_sem, ↓reduceIte, d0] | with_reducible refine vIf_t ?_ | with_reducible refine vIf_f ?_)))
    (refine vCallX_io [0] ?_; (repeat (first | simp (maxSteps := 2000000) (disch := omega) only [go_sem, ↓reduceIte] | with_reducible refine vIf_t ?_ | with_reducible refine vIf_f ?_)); refine vCallIO_ex (one_e g 5 σ1 (by omega)) (by simp (disch := omega) only [go_sem]) (by simp (disch := omega) only [go_sem]) (by first | rfl | (simp (disch := omega) only [go_sem])) (by first | rfl | (simp (disch := omega) only [go_sem])) (by first | rfl | (simp (disch := omega) only [go_sem])) ?_); rintro _ _ ⟨b2, σ9, rfl, rfl, h9⟩; (refine ⟨by first | (simp (disch := omega) only [go_sem]) | trivial, ?_⟩; (repeat (first | simp (maxSteps := 2000000) (disch := omega) only [go_sem, ↓reduceIte] | with_reducible refine vIf_t ?_ | with_reducible refine vIf_f ?_)))
    cases b2 with
    | true =>
      (repeat (first | simp (maxSteps := 2000000) (disch := omega) only [go_sem, ↓reduceIte] | with_reducible refine vIf_t ?_ | with_reducible refine vIf_f ?_))
      refine retK_fz 1 ⟨3, cGd ds⟩ rfl (by (repeat (first | simp (maxSteps := 2000000) (disch := omega) only [go_sem, ↓reduceIte] | with_reducible refine vIf_t ?_ | with_reducible refine vIf_f ?_))) ?_
      (repeat (first | simp (maxSteps := 2000000) (disch := omega) only [go_sem, ↓reduceIte] | with_reducible refine vIf_t ?_ | with_reducible refine vIf_f ?_))
      refine retK_fz 2 _ rfl (by (repeat (first | simp (maxSteps := 2000000) (disch := omega) only [go_sem, ↓reduceIte] | with_reducible refine vIf_t ?_ | with_reducible refine vIf_f ?_))) ?_
      (repeat (first | simp (maxSteps := 2000000) (disch := omega) only [go_sem, ↓reduceIte] | with_reducible refine vIf_t ?_ | with_reducible refine vIf_f ?_))
      (refine retK_of ?_; (repeat (first | simp (maxSteps := 2000000) (disch := omega) only [go_sem, ↓reduceIte] | with_reducible refine vIf_t ?_ | with_reducible refine vIf_f ?_)))
      exact ⟨ds, ds ++ [⟨tx [], 0, 0⟩], by simp, by omega, by simp; omega⟩
    | false =>
      (repeat (first | simp (maxSteps := 2000000) (disch := omega) only [go_sem, ↓reduceIte] | with_reducible refine vIf_t ?_ | with_reducible refine vIf_f ?_))
      refine retK_fz 1 ⟨3, cGd ds⟩ rfl (by (repeat (first | simp (maxSteps := 2000000) (disch := omega) only [go_sem, ↓reduceIte] | with_reducible refine vIf_t ?_ | with_reducible refine vIf_f ?_))) ?_
      (repeat (first | simp (maxSteps := 2000000) (disch := omega) only [go_sem, ↓reduceIte] | with_reducible refine vIf_t ?_ | with_reducible refine vIf_f ?_))
      refine retK_fz 2 _ rfl (by (repeat (first | simp (maxSteps := 2000000) (disch := omega) only [go_sem, ↓reduceIte] | with_reducible refine vIf_t ?_ | with_reducible refine vIf_f ?_))) ?_
      (repeat (first | simp (maxSteps := 2000000) (disch := omega) only [go_sem, ↓reduceIte] | with_reducible refine vIf_t ?_ | with_reducible refine vIf_f ?_))
      (refine retK_of ?_; (repeat (first | simp (maxSteps := 2000000) (disch := omega) only [go_sem, ↓reduceIte] | with_reducible refine vIf_t ?_ | with_reducible refine vIf_f ?_)))
      exact ⟨ds, ds, rfl, by omega, by omega⟩
  have d0 : decide (0 < (ds.length : Int)) = true := decide_eq_true (by omega)
  (repeat (first | simp (maxSteps := 2000000) (disch := omega) only [go_sem, ↓reduceIte, d0] | with_reducible refine vIf_t ?_ | with_reducible refine vIf_f ?_))
  (try (repeat (first | simp (maxSteps := 2000000) (disch := omega) only [go_sem, ↓reduceIte, d0] | with_reducible refine vIf_t ?_ | with_reducible refine vIf_f ?_)))
  (refine vCallX_io [0] ?_; (repeat (first | simp (maxSteps := 2000000) (disch := omega) only [go_sem, ↓reduceIte] | with_reducible refine vIf_t ?_ | with_reducible refine vIf_f ?_)); refine vCallIO_ex (one_e g 2 σ1 (by omega)) (by simp (disch := omega) only [go_sem]) (by simp (disch := omega) only [go_sem]) (by first | rfl | (simp (disch := omega) only [go_sem])) (by first | rfl | (simp (disch := omega) only [go_sem])) (by first | rfl | (simp (disch := omega) only [go_sem])) ?_); rintro _ _ ⟨b1, σ2, rfl, rfl, h2⟩; (refine ⟨by first | (simp (disch := omega) only [go_sem]) | trivial, ?_⟩; (repeat (first | simp (maxSteps := 2000000) (disch := omega) only [go_sem, ↓reduceIte] | with_reducible refine vIf_t ?_ | with_reducible refine vIf_f ?_)))
  cases b1 with
  | false =>
    (try (repeat (first | simp (maxSteps := 2000000) (disch := omega) only [go_sem, ↓reduceIte, d0] | with_reducible refine vIf_t ?_ | with_reducible refine vIf_f ?_)))
    (refine vCallX_io [0] ?_; (repeat (first | simp (maxSteps := 2000000) (disch := omega) only [go_sem, ↓reduceIte] | with_reducible refine vIf_t ?_ | with_reducible refine vIf_f ?_)); refine vCallIO_ex (one_e g 5 σ2 (by omega)) (by simp (disch := omega) only [go_sem]) (by simp (disch := omega) only [go_sem]) (by first | rfl | (simp (disch := omega) only [go_sem])) (by first | rfl | (simp (disch := omega) only [go_sem])) (by first | rfl | (simp (disch := omega) only [go_sem])) ?_); rintro _ _ ⟨b2, σ9, rfl, rfl, h9⟩; (refine ⟨by first | (simp (disch := omega) only [go_sem]) | trivial, ?_⟩; (repeat (first | simp (maxSteps := 2000000) (disch := omega) only [go_sem, ↓reduceIte] | with_reducible refine vIf_t ?_ | with_reducible refine vIf_f ?_)))
    cases b2 with
    | true =>
      (repeat (first | simp (maxSteps := 2000000) (disch := omega) only [go_sem, ↓reduceIte] | with_reducible refine vIf_t ?_ | with_reducible refine vIf_f ?_))
      refine retK_fz 1 ⟨3, cGd ds⟩ rfl (by (repeat (first | simp (maxSteps := 2000000) (disch := omega) only [go_sem, ↓reduceIte] | with_reducible refine vIf_t ?_ | with_reducible refine vIf_f ?_))) ?_
      (repeat (first | simp (maxSteps := 2000000) (disch := omega) only [go_sem, ↓reduceIte] | with_reducible refine vIf_t ?_ | with_reducible refine vIf_f ?_))
      refine retK_fz 2 _ rfl (by (repeat (first | simp (maxSteps := 2000000) (disch := omega) only [go_sem, ↓reduceIte] | with_reducible refine vIf_t ?_ | with_reducible refine vIf_f ?_))) ?_
      (repeat (first | simp (maxSteps := 2000000) (disch := omega) only [go_sem, ↓reduceIte] | with_reducible refine vIf_t ?_ | with_reducible refine vIf_f ?_))
      (refine retK_of ?_; (repeat (first | simp (maxSteps := 2000000) (disch := omega) only [go_sem, ↓reduceIte] | with_reducible refine vIf_t ?_ | with_reducible refine vIf_f ?_)))
      exact ⟨ds, ds ++ [⟨tx [], 0, 0⟩], by simp, by omega, by simp; omega⟩
    | false =>
      (repeat (first | simp (maxSteps := 2000000) (disch := omega) only [go_sem, ↓reduceIte] | with_reducible refine vIf_t ?_ | with_reducible refine vIf_f ?_))
      refine retK_fz 1 ⟨3, cGd ds⟩ rfl (by (repeat (first | simp (maxSteps := 2000000) (disch := omega) only [go_sem, ↓reduceIte] | with_reducible refine vIf_t ?_ | with_reducible refine vIf_f ?_))) ?_
      (repeat (first | simp (maxSteps := 2000000) (disch := omega) only [go_sem, ↓reduceIte] | with_reducible refine vIf_t ?_ | with_reducible refine vIf_f ?_))
      refine retK_fz 2 _ rfl (by (repeat (first | simp (maxSteps := 2000000) (disch := omega) only [go_sem, ↓reduceIte] | with_reducible refine vIf_t ?_ | with_reducible refine vIf_f ?_))) ?_
      (repeat (first | simp (maxSteps := 2000000) (disch := omega) only [go_sem, ↓reduceIte] | with_reducible refine vIf_t ?_ | with_reducible refine vIf_f ?_))
      (refine retK_of ?_; (repeat (first | simp (maxSteps := 2000000) (disch := omega) only [go_sem, ↓reduceIte] | with_reducible refine vIf_t ?_ | with_reducible refine vIf_f ?_)))
      exact ⟨ds, ds, rfl, by omega, by omega⟩
  | true =>
    (try (repeat (first | simp (maxSteps := 2000000) (disch := omega) only [go_sem, ↓reduceIte, d0] | with_reducible refine vIf_t ?_ | with_reducible refine vIf_f ?_)))
    (refine vDraw_sch 6 [(0, false), (1, false), (2, false), (4, false), (3, false), (5, false)] mixed (by kernel_rfl) ?_; simp only [List.cons_append, List.nil_append, List.map_cons, List.map_nil, nthO_zero, nthO_succ, List.drop_succ_cons, List.drop_zero, List.drop_nil]; (repeat (first | simp (maxSteps := 2000000) (disch := omega) only [go_sem, ↓reduceIte] | with_reducible refine vIf_t ?_ | with_reducible refine vIf_f ?_)))
    (refine vsCallX_io [0] (by simp [disj]) ?_; (try (repeat (first | simp (maxSteps := 2000000) (disch := omega) only [go_sem, ↓reduceIte] | with_reducible refine vIf_t ?_ | with_reducible refine vIf_f ?_))); refine vCallIO_ex (pick_e g 2 σ2 (by omega)) (by simp (disch := omega) only [go_sem]) (by simp (disch := omega) only [go_sem]) (by first | rfl | (simp (disch := omega) only [go_sem])) (by first | rfl | (simp (disch := omega) only [go_sem])) (by first | rfl | (simp (disch := omega) only [go_sem])) ?_); rintro _ _ ⟨v, σ3, rfl, rfl, h3, h4, h5⟩; (refine ⟨by first | (simp (disch := omega) only [go_sem]) | trivial, ?_⟩; (try (repeat (first | simp (maxSteps := 2000000) (disch := omega) only [go_sem, ↓reduceIte] | with_reducible refine vIf_t ?_ | with_reducible refine vIf_f ?_))))
    (try (repeat (first | simp (maxSteps := 2000000) (disch := omega) only [go_sem, ↓reduceIte] | with_reducible refine vIf_t ?_ | with_reducible refine vIf_f ?_)))
    obtain ⟨es, he⟩ : ∃ es : List Gd, es = ds.set 0 {gGd ds 0 with tw := IntKind.wrap .i64 ((gGd ds 0).tw + v)} := ⟨_, rfl⟩
    have hel : es.length = ds.length := by rw [he]; simp
    rw [← he]
    have tk := take_gd1 es ⟨tx [], 0, 0⟩
    rw [hel] at tk
    (refine vCallX_io [0] ?_; (repeat (first | simp (maxSteps := 2000000) (disch := omega) only [go_sem, ↓reduceIte] | with_reducible refine vIf_t ?_ | with_reducible refine vIf_f ?_)); refine vCallIO_ex (one_e g 5 σ3 (by omega)) (by simp (disch := omega) only [go_sem]) (by simp (disch := omega) only [go_sem]) (by first | rfl | (simp (disch := omega) only [go_sem])) (by first | rfl | (simp (disch := omega) only [go_sem])) (by first | rfl | (simp (disch := omega) only [go_sem])) ?_); rintro _ _ ⟨b2, σ9, rfl, rfl, h9⟩; (refine ⟨by first | (simp (disch := omega) only [go_sem]) | trivial, ?_⟩; (repeat (first | simp (maxSteps := 2000000) (disch := omega) only [go_sem, ↓reduceIte] | with_reducible refine vIf_t ?_ | with_reducible refine vIf_f ?_)))
    cases b2 with
    | true =>
      (repeat (first | simp (maxSteps := 2000000) (disch := omega) only [go_sem, ↓reduceIte] | with_reducible refine vIf_t ?_ | with_reducible refine vIf_f ?_))
      refine retK_fz 1 ⟨3, cGd ds⟩ rfl (by (repeat (first | simp (maxSteps := 2000000) (disch := omega) only [go_sem, ↓reduceIte] | with_reducible refine vIf_t ?_ | with_reducible refine vIf_f ?_))) ?_
      (repeat (first | simp (maxSteps := 2000000) (disch := omega) only [go_sem, ↓reduceIte] | with_reducible refine vIf_t ?_ | with_reducible refine vIf_f ?_))
      refine retK_fz 2 _ rfl (by (repeat (first | simp (maxSteps := 2000000) (disch := omega) only [go_sem, ↓reduceIte] | with_reducible refine vIf_t ?_ | with_reducible refine vIf_f ?_))) ?_
      (repeat (first | simp (maxSteps := 2000000) (disch := omega) only [go_sem, ↓reduceIte] | with_reducible refine vIf_t ?_ | with_reducible refine vIf_f ?_))
      (refine retK_of ?_; (repeat (first | simp (maxSteps := 2000000) (disch := omega) only [go_sem, ↓reduceIte] | with_reducible refine vIf_t ?_ | with_reducible refine vIf_f ?_)))
      exact ⟨ds, es ++ [⟨tx [], 0, 0⟩], by rw [tk]; simp [hel], by omega, by simp; omega⟩
    | false =>
      (repeat (first | simp (maxSteps := 2000000) (disch := omega) only [go_sem, ↓reduceIte] | with_reducible refine vIf_t ?_ | with_reducible refine vIf_f ?_))
      refine retK_fz 1 ⟨3, cGd ds⟩ rfl (by (repeat (first | simp (maxSteps := 2000000) (disch := omega) only [go_sem, ↓reduceIte] | with_reducible refine vIf_t ?_ | with_reducible refine vIf_f ?_))) ?_
      (repeat (first | simp (maxSteps := 2000000) (disch := omega) only [go_sem, ↓reduceIte] | with_reducible refine vIf_t ?_ | with_reducible refine vIf_f ?_))
      refine retK_fz 2 _ rfl (by (repeat (first | simp (maxSteps := 2000000) (disch := omega) only [go_sem, ↓reduceIte] | with_reducible refine vIf_t ?_ | with_reducible refine vIf_f ?_))) ?_
      (repeat (first | simp (maxSteps := 2000000) (disch := omega) only [go_sem, ↓reduceIte] | with_reducible refine vIf_t ?_ | with_reducible refine vIf_f ?_))
      (refine retK_of ?_; (repeat (first | simp (maxSteps := 2000000) (disch := omega) only [go_sem, ↓reduceIte] | with_reducible refine vIf_t ?_ | with_reducible refine vIf_f ?_)))
      exact ⟨ds, es, by simp [hel], by omega, by omega⟩
end Go.Proofs.YtfhckmlmfigfjaaGreatDoor

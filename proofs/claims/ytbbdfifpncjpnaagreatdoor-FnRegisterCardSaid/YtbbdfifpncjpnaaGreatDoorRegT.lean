/- the register: texts of parcels -/
import Derived.Test.YtbbdfifpncjpnaaGreatDoorT8
import Derived.Test.YtbbdfifpncjpnaaGreatDoorRegD
set_option linter.unusedVariables false
set_option linter.unusedSimpArgs false
namespace Go.Proofs.YtbbdfifpncjpnaaGreatDoor
open Go.AG Go.Lib

attribute [local go_sem] beq_self_eq_true bne_self_eq_false Bool.not_true Bool.not_false
def wOw : List UInt8 := [111, 119, 110, 101, 114]
def wAr : List UInt8 := [97, 114, 101, 97]
def wCl : List UInt8 := [99, 108, 97, 115, 115]
def pcP (p : Pc) : List (List UInt8 × Int) := [([35], p.id), ([32, 111, 119, 110, 101, 114, 32], p.owner), ([32, 97, 114, 101, 97, 32], p.area), ([32, 99, 108, 97, 115, 115, 32], p.cls)]
def pcT (p : Pc) : List UInt8 := txN (pcP p) []
def pcA (p : Pc) : List Int := [p.id, p.owner, p.area, p.cls]
structure PcO (p : Pc) : Prop where
  a : nOk p.id
  b : nOk p.owner
  c : nOk p.area
  d : nOk p.cls
theorem pcO_of {p : Pc} (h : pcB p = true) : PcO p := by
  have := (pcB_iff p).1 h
  constructor <;> unfold nOk <;> omega
theorem PcD.n {p : Pc} (h : PcD p) : PcO p := by
  obtain ⟨h1, h2, h3, h4⟩ := h
  constructor <;> unfold nOk <;> omega
theorem pcT_len {p : Pc} (h : PcO p) : (pcT p).length ≤ 200 := by
  obtain ⟨h1, h2, h3, h4⟩ := h
  have hl := len_txN (pcP p) [] 8 (by simp [pcP, h1, h2, h3, h4])
  unfold pcT
  simp [pcP] at hl ⊢
  omega
theorem pcT_asc (p : Pc) : Asc (pcT p) := asc_txN (pcP p) [] rfl rfl
theorem pcT_nums {p : Pc} (h : PcO p) : nums (pcT p) = pcA p := by
  obtain ⟨h1, h2, h3, h4⟩ := h
  exact nums_of (flG_txN (pcP p) [] rfl rfl rfl) (by simp [pcA, h1, h2, h3, h4])
theorem pcT_ne (p : Pc) : pcT p ≠ [] := by simp [pcT, pcP, txN]
set_option maxRecDepth 20000 in
theorem l19Text_ok (p : Pc) (h : PcO p) : ACalls Tryz.prog 80 [.ip p.cells 0] [] (fun r o => r = St (tx (pcT p)) ∧ o = []) := by
  refine ACalls.of_vc Tryz.func80 rfl (by decide) 30 rfl [.tmp 2] rfl (by simp) ?_
  obtain ⟨h1, h2, h3, h4⟩ := h
  have d1 := l01Dec_ok p.id (by unfold nOk at h1; omega)
  have d2 := l01Dec_ok p.owner (by unfold nOk at h2; omega)
  have d3 := l01Dec_ok p.area (by unfold nOk at h3; omega)
  have d4 := l01Dec_ok p.cls (by unfold nOk at h4; omega)
  have i1 := itoa_len p.id h1
  have i2 := itoa_len p.owner h2
  have i3 := itoa_len p.area h3
  have i4 := itoa_len p.cls h4
  unfold Pc.cells
  (repeat (first | simp (maxSteps := 2000000) (disch := omega) only [go_sem, ↓reduceIte] | with_reducible refine vIf_t ?_ | with_reducible refine vIf_f ?_))
  (refine vDraw_sch 26 ([(0, false), (1, false), (2, false), (7, false), (8, false), (9, false), (14, false), (15, false), (16, false), (21, false), (22, false), (23, false), (3, false), (10, false), (17, false), (24, false), (4, false), (5, false), (6, false), (11, false)] ++ [(12, false), (13, false), (18, false), (19, false), (20, false), (25, false)]) mixed (by kernel_rfl) ?_; simp only [List.cons_append, List.nil_append, List.map_cons, List.map_nil, nthO_zero, nthO_succ, List.drop_succ_cons, List.drop_zero, List.drop_nil]; (repeat (first | simp (maxSteps := 2000000) (disch := omega) only [go_sem, ↓reduceIte] | with_reducible refine vIf_t ?_ | with_reducible refine vIf_f ?_)))
  (refine vsCallX_of ?_; (try (repeat (first | simp (maxSteps := 2000000) (disch := omega) only [go_sem, ↓reduceIte] | with_reducible refine vIf_t ?_ | with_reducible refine vIf_f ?_))); refine vCall_eq (d1) (by simp (disch := omega) only [go_sem]) rfl (by first | exact Or.inl rfl | exact Or.inr ⟨rfl, rfl⟩ | (apply Or.inr; simp only [go_sem])) ?_; (try (repeat (first | simp (maxSteps := 2000000) (disch := omega) only [go_sem, ↓reduceIte] | with_reducible refine vIf_t ?_ | with_reducible refine vIf_f ?_))))
  (refine vsCallX_of ?_; (try (repeat (first | simp (maxSteps := 2000000) (disch := omega) only [go_sem, ↓reduceIte] | with_reducible refine vIf_t ?_ | with_reducible refine vIf_f ?_))); refine vCall_eq (d2) (by simp (disch := omega) only [go_sem]) rfl (by first | exact Or.inl rfl | exact Or.inr ⟨rfl, rfl⟩ | (apply Or.inr; simp only [go_sem])) ?_; (try (repeat (first | simp (maxSteps := 2000000) (disch := omega) only [go_sem, ↓reduceIte] | with_reducible refine vIf_t ?_ | with_reducible refine vIf_f ?_))))
  (refine vsCallX_of ?_; (try (repeat (first | simp (maxSteps := 2000000) (disch := omega) only [go_sem, ↓reduceIte] | with_reducible refine vIf_t ?_ | with_reducible refine vIf_f ?_))); refine vCall_eq (d3) (by simp (disch := omega) only [go_sem]) rfl (by first | exact Or.inl rfl | exact Or.inr ⟨rfl, rfl⟩ | (apply Or.inr; simp only [go_sem])) ?_; (try (repeat (first | simp (maxSteps := 2000000) (disch := omega) only [go_sem, ↓reduceIte] | with_reducible refine vIf_t ?_ | with_reducible refine vIf_f ?_))))
  (refine vsCallX_of ?_; (try (repeat (first | simp (maxSteps := 2000000) (disch := omega) only [go_sem, ↓reduceIte] | with_reducible refine vIf_t ?_ | with_reducible refine vIf_f ?_))); refine vCall_eq (d4) (by simp (disch := omega) only [go_sem]) rfl (by first | exact Or.inl rfl | exact Or.inr ⟨rfl, rfl⟩ | (apply Or.inr; simp only [go_sem])) ?_; (try (repeat (first | simp (maxSteps := 2000000) (disch := omega) only [go_sem, ↓reduceIte] | with_reducible refine vIf_t ?_ | with_reducible refine vIf_f ?_))))
  (try (repeat (first | simp (maxSteps := 2000000) (disch := omega) only [go_sem, ↓reduceIte] | with_reducible refine vIf_t ?_ | with_reducible refine vIf_f ?_)))
  (refine retK_of ?_; (repeat (first | simp (maxSteps := 2000000) (disch := omega) only [go_sem, ↓reduceIte] | with_reducible refine vIf_t ?_ | with_reducible refine vIf_f ?_)))
  exact St_txN (by simp [pcT, pcP, txN])
set_option maxRecDepth 20000 in
theorem parcelText_ok (p : Pc) : ACalls Tryz.prog 19 [.agg p.cells] [] (fun r o => r = St (tx (if pcB p = true then pcT p else [])) ∧ o = []) := by
  refine ACalls.of_vc Tryz.func19 rfl (by decide) 25 rfl [.tmp 2] rfl (by simp) ?_
  have hv := isPc_ok p
  cases hw : pcB p with
  | false =>
    rw [hw] at hv
    unfold Pc.cells at hv ⊢
    (repeat (first | simp (maxSteps := 2000000) (disch := omega) only [go_sem, ↓reduceIte] | with_reducible refine vIf_t ?_ | with_reducible refine vIf_f ?_))
    (refine vCallX_of ?_; (repeat (first | simp (maxSteps := 2000000) (disch := omega) only [go_sem, ↓reduceIte] | with_reducible refine vIf_t ?_ | with_reducible refine vIf_f ?_)); refine vCall_eq (hv) (by simp (disch := omega) only [go_sem]) rfl (by first | exact Or.inl rfl | exact Or.inr ⟨rfl, rfl⟩ | (apply Or.inr; simp only [go_sem])) ?_; (repeat (first | simp (maxSteps := 2000000) (disch := omega) only [go_sem, ↓reduceIte] | with_reducible refine vIf_t ?_ | with_reducible refine vIf_f ?_)))
    (refine retK_of ?_; (repeat (first | simp (maxSteps := 2000000) (disch := omega) only [go_sem, ↓reduceIte] | with_reducible refine vIf_t ?_ | with_reducible refine vIf_f ?_)))
    try rfl
  | true =>
    rw [hw] at hv
    obtain ⟨h1, h2, h3, h4⟩ := pcO_of hw
    have d1 := decimal_ok p.id (by unfold nOk at h1; omega)
    have d2 := decimal_ok p.owner (by unfold nOk at h2; omega)
    have d3 := decimal_ok p.area (by unfold nOk at h3; omega)
    have d4 := decimal_ok p.cls (by unfold nOk at h4; omega)
    have i1 := itoa_len p.id h1
    have i2 := itoa_len p.owner h2
    have i3 := itoa_len p.area h3
    have i4 := itoa_len p.cls h4
    rw [if_pos rfl]
    unfold Pc.cells at hv ⊢
    (repeat (first | simp (maxSteps := 2000000) (disch := omega) only [go_sem, ↓reduceIte] | with_reducible refine vIf_t ?_ | with_reducible refine vIf_f ?_))
    (refine vCallX_of ?_; (repeat (first | simp (maxSteps := 2000000) (disch := omega) only [go_sem, ↓reduceIte] | with_reducible refine vIf_t ?_ | with_reducible refine vIf_f ?_)); refine vCall_eq (hv) (by simp (disch := omega) only [go_sem]) rfl (by first | exact Or.inl rfl | exact Or.inr ⟨rfl, rfl⟩ | (apply Or.inr; simp only [go_sem])) ?_; (repeat (first | simp (maxSteps := 2000000) (disch := omega) only [go_sem, ↓reduceIte] | with_reducible refine vIf_t ?_ | with_reducible refine vIf_f ?_)))
    (refine vDraw_sch 18 [(0, false), (5, false), (10, false), (15, false), (1, false), (6, false), (11, false), (16, false), (2, false), (3, false), (4, false), (7, false), (8, false), (9, false), (12, false), (13, false), (14, false), (17, false)] mixed (by kernel_rfl) ?_; simp only [List.cons_append, List.nil_append, List.map_cons, List.map_nil, nthO_zero, nthO_succ, List.drop_succ_cons, List.drop_zero, List.drop_nil]; (repeat (first | simp (maxSteps := 2000000) (disch := omega) only [go_sem, ↓reduceIte] | with_reducible refine vIf_t ?_ | with_reducible refine vIf_f ?_)))
    (refine vsCallX_of ?_; (try (repeat (first | simp (maxSteps := 2000000) (disch := omega) only [go_sem, ↓reduceIte] | with_reducible refine vIf_t ?_ | with_reducible refine vIf_f ?_))); refine vCall_eq (d1) (by simp (disch := omega) only [go_sem]) rfl (by first | exact Or.inl rfl | exact Or.inr ⟨rfl, rfl⟩ | (apply Or.inr; simp only [go_sem])) ?_; (try (repeat (first | simp (maxSteps := 2000000) (disch := omega) only [go_sem, ↓reduceIte] | with_reducible refine vIf_t ?_ | with_reducible refine vIf_f ?_))))
    (refine vsCallX_of ?_; (try (repeat (first | simp (maxSteps := 2000000) (disch := omega) only [go_sem, ↓reduceIte] | with_reducible refine vIf_t ?_ | with_reducible refine vIf_f ?_))); refine vCall_eq (d2) (by simp (disch := omega) only [go_sem]) rfl (by first | exact Or.inl rfl | exact Or.inr ⟨rfl, rfl⟩ | (apply Or.inr; simp only [go_sem])) ?_; (try (repeat (first | simp (maxSteps := 2000000) (disch := omega) only [go_sem, ↓reduceIte] | with_reducible refine vIf_t ?_ | with_reducible refine vIf_f ?_))))
    (refine vsCallX_of ?_; (try (repeat (first | simp (maxSteps := 2000000) (disch := omega) only [go_sem, ↓reduceIte] | with_reducible refine vIf_t ?_ | with_reducible refine vIf_f ?_))); refine vCall_eq (d3) (by simp (disch := omega) only [go_sem]) rfl (by first | exact Or.inl rfl | exact Or.inr ⟨rfl, rfl⟩ | (apply Or.inr; simp only [go_sem])) ?_; (try (repeat (first | simp (maxSteps := 2000000) (disch := omega) only [go_sem, ↓reduceIte] | with_reducible refine vIf_t ?_ | with_reducible refine vIf_f ?_))))
    (refine vsCallX_of ?_; (try (repeat (first | simp (maxSteps := 2000000) (disch := omega) only [go_sem, ↓reduceIte] | with_reducible refine vIf_t ?_ | with_reducible refine vIf_f ?_))); refine vCall_eq (d4) (by simp (disch := omega) only [go_sem]) rfl (by first | exact Or.inl rfl | exact Or.inr ⟨rfl, rfl⟩ | (apply Or.inr; simp only [go_sem])) ?_; (try (repeat (first | simp (maxSteps := 2000000) (disch := omega) only [go_sem, ↓reduceIte] | with_reducible refine vIf_t ?_ | with_reducible refine vIf_f ?_))))
    (try (repeat (first | simp (maxSteps := 2000000) (disch := omega) only [go_sem, ↓reduceIte] | with_reducible refine vIf_t ?_ | with_reducible refine vIf_f ?_)))
    (refine retK_of ?_; (repeat (first | simp (maxSteps := 2000000) (disch := omega) only [go_sem, ↓reduceIte] | with_reducible refine vIf_t ?_ | with_reducible refine vIf_f ?_)))
    exact St_txN (by simp [pcT, pcP, txN])
theorem parcelTextS_ok (p : Pc) : ACalls Tryz.prog 25 [.agg p.cells] [] (fun r o => r = St (tx (if pcB p = true then pcT p else [])) ∧ o = []) := by
  refine ACalls.of_vc Tryz.func25 rfl (by decide) 6 rfl [.tmp 2] rfl (by simp) ?_
  have hv := l19OneP_ok p
  cases hw : pcB p with
  | false =>
    rw [hw] at hv
    unfold Pc.cells at hv ⊢
    (repeat (first | simp (maxSteps := 2000000) (disch := omega) only [go_sem, ↓reduceIte] | with_reducible refine vIf_t ?_ | with_reducible refine vIf_f ?_))
    (refine vCallX_of ?_; (repeat (first | simp (maxSteps := 2000000) (disch := omega) only [go_sem, ↓reduceIte] | with_reducible refine vIf_t ?_ | with_reducible refine vIf_f ?_)); refine vCall_eq (hv) (by simp (disch := omega) only [go_sem]) rfl (by first | exact Or.inl rfl | exact Or.inr ⟨rfl, rfl⟩ | (apply Or.inr; simp only [go_sem])) ?_; (repeat (first | simp (maxSteps := 2000000) (disch := omega) only [go_sem, ↓reduceIte] | with_reducible refine vIf_t ?_ | with_reducible refine vIf_f ?_)))
    (refine retK_of ?_; (repeat (first | simp (maxSteps := 2000000) (disch := omega) only [go_sem, ↓reduceIte] | with_reducible refine vIf_t ?_ | with_reducible refine vIf_f ?_)))
    try rfl
  | true =>
    rw [hw] at hv
    have ht := l19Text_ok p (pcO_of hw)
    rw [if_pos rfl]
    unfold Pc.cells at hv ht ⊢
    (repeat (first | simp (maxSteps := 2000000) (disch := omega) only [go_sem, ↓reduceIte] | with_reducible refine vIf_t ?_ | with_reducible refine vIf_f ?_))
    (refine vCallX_of ?_; (repeat (first | simp (maxSteps := 2000000) (disch := omega) only [go_sem, ↓reduceIte] | with_reducible refine vIf_t ?_ | with_reducible refine vIf_f ?_)); refine vCall_eq (hv) (by simp (disch := omega) only [go_sem]) rfl (by first | exact Or.inl rfl | exact Or.inr ⟨rfl, rfl⟩ | (apply Or.inr; simp only [go_sem])) ?_; (repeat (first | simp (maxSteps := 2000000) (disch := omega) only [go_sem, ↓reduceIte] | with_reducible refine vIf_t ?_ | with_reducible refine vIf_f ?_)))
    (refine vCallX_of ?_; (repeat (first | simp (maxSteps := 2000000) (disch := omega) only [go_sem, ↓reduceIte] | with_reducible refine vIf_t ?_ | with_reducible refine vIf_f ?_)); refine vCall_eq (ht) (by simp (disch := omega) only [go_sem]) rfl (by first | exact Or.inl rfl | exact Or.inr ⟨rfl, rfl⟩ | (apply Or.inr; simp only [go_sem])) ?_; (repeat (first | simp (maxSteps := 2000000) (disch := omega) only [go_sem, ↓reduceIte] | with_reducible refine vIf_t ?_ | with_reducible refine vIf_f ?_)))
    (refine retK_of ?_; (repeat (first | simp (maxSteps := 2000000) (disch := omega) only [go_sem, ↓reduceIte] | with_reducible refine vIf_t ?_ | with_reducible refine vIf_f ?_)))
/-! read back -/
def mkP (ns : List Int) : Pc := ⟨gi ns 0, gi ns 1, gi ns 2, gi ns 3⟩
/-- the parcel that a text is -/
def rpO (l : List UInt8) : Option Pc := if (nums l).length = 4 ∧ pcB (mkP (nums l)) = true ∧ pcT (mkP (nums l)) = l then some (mkP (nums l)) else none
theorem rpO_iff (l : List UInt8) (p : Pc) : rpO l = some p ↔ pcB p = true ∧ pcT p = l := by
  unfold rpO
  constructor
  · intro h
    split at h
    · rename_i hc
      simp only [Option.some.injEq] at h
      subst h
      exact ⟨hc.2.1, hc.2.2⟩
    · simp at h
  · rintro ⟨h1, rfl⟩
    have hn := pcT_nums (pcO_of h1)
    have hm : mkP (pcA p) = p := rfl
    rw [hn, hm, if_pos ⟨rfl, h1, rfl⟩]
def rpV : Option Pc → V
  | none => .tup [.agg [I 0, I 0, I 0, I 0], B false]
  | some p => .tup [.agg p.cells, B true]
set_option maxRecDepth 20000 in
set_option maxHeartbeats 4000000 in
theorem readParcel_ok (l : List UInt8) (ha : Asc l) (hl : l.length ≤ 10000) : ACalls Tryz.prog 20 [St (tx l)] [] (fun r o => r = rpV (rpO l) ∧ o = []) := by
  refine ACalls.of_vc Tryz.func20 rfl (by decide) 36 rfl [.cell 2 33, .tmp 3] rfl (by simp) ?_
  have hnum := numbersX_ok l ha (by omega)
  have hnl := (nums_ok l).1
  have hfl := flG_len pn l none
  by_cases h5 : (nums l).length = 4
  · have c5 : (((nums l).length : Int) != 4) = false := by simp; omega
    generalize hp : mkP (nums l) = p
    have hv := isPc_ok p
    have ht := parcelText_ok p
    have g0 : gi (nums l) 0 = p.id := by rw [← hp]; rfl
    have g1 : gi (nums l) 1 = p.owner := by rw [← hp]; rfl
    have g2 : gi (nums l) 2 = p.area := by rw [← hp]; rfl
    have g3 : gi (nums l) 3 = p.cls := by rw [← hp]; rfl
    have er : rpO l = if pcB p = true ∧ pcT p = l then some p else none := by
      unfold rpO
      rw [hp]
      by_cases h : pcB p = true ∧ pcT p = l
      · rw [if_pos ⟨h5, h⟩, if_pos h]
      · rw [if_neg (fun e => h e.2), if_neg h]
    generalize hns : nums l = ns at *
    unfold Pc.cells at hv ht
    (repeat (first | simp (maxSteps := 2000000) (disch := omega) only [go_sem, ↓reduceIte] | with_reducible refine vIf_t ?_ | with_reducible refine vIf_f ?_))
    (refine vCallX_of ?_; (repeat (first | simp (maxSteps := 2000000) (disch := omega) only [go_sem, ↓reduceIte] | with_reducible refine vIf_t ?_ | with_reducible refine vIf_f ?_)); refine vCall_eq (hnum) (by simp (disch := omega) only [go_sem]) rfl (by first | exact Or.inl rfl | exact Or.inr ⟨rfl, rfl⟩ | (apply Or.inr; simp only [go_sem])) ?_; (repeat (first | simp (maxSteps := 2000000) (disch := omega) only [go_sem, ↓reduceIte] | with_reducible refine vIf_t ?_ | with_reducible refine vIf_f ?_)))
    (try (repeat (first | simp (maxSteps := 2000000) (disch := omega) only [go_sem, ↓reduceIte, c5] | with_reducible refine vIf_t ?_ | with_reducible refine vIf_f ?_)))
    (refine vDraw_tr 14 (.rd 0 (.rd 1 (.rd 2 (.rd 3 (.rd 4 (.rd 5 (.rd 6 (.rd 7 (.rd 8 (.rd 9 (.rd 10 (.rd 11 (.alt 12 (.alt 13 (.done) (.stop)) (.alt 13 (.alt 12 (.done) (.stop)) (.stop))))))))))))))) (fun _ : Unit => True) (fun _ => ⟨36, 0, [(2, .ptr 0 0), (0, St (tx l)), (5, .ptr 1 0), (24, .agg [I p.id, I p.owner, I p.area, I p.cls])], [some ⟨4, [I 0, I 0, I 0, I 0]⟩, some ⟨4, [I 0, I 0, I 0, I 0]⟩]⟩) mixed (by kernel_rfl) ?_ ?_)
    · (repeat (first | simp (maxSteps := 2000000) (disch := omega) only [go_sem, ↓reduceIte, g0, g1, g2, g3] | with_reducible refine vIf_t ?_ | with_reducible refine vIf_f ?_))
      repeat' (first | refine And.intro ?_ ?_ | (refine ⟨(), leF_p ?_⟩; (repeat (first | simp (maxSteps := 2000000) (disch := omega) only [go_sem, ↓reduceIte, g0, g1, g2, g3] | with_reducible refine vIf_t ?_ | with_reducible refine vIf_f ?_))))
    · intro _ _
      simp only [List.drop_succ_cons, List.drop_zero, List.drop_nil]
      (repeat (first | simp (maxSteps := 2000000) (disch := omega) only [go_sem, ↓reduceIte] | with_reducible refine vIf_t ?_ | with_reducible refine vIf_f ?_))
      cases hw : pcB p with
      | false =>
        rw [hw] at hv
        rw [er, if_neg (by simp [hw])]
        (refine vCallX_of ?_; (repeat (first | simp (maxSteps := 2000000) (disch := omega) only [go_sem, ↓reduceIte] | with_reducible refine vIf_t ?_ | with_reducible refine vIf_f ?_)); refine vCall_eq (hv) (by simp (disch := omega) only [go_sem]) rfl (by first | exact Or.inl rfl | exact Or.inr ⟨rfl, rfl⟩ | (apply Or.inr; simp only [go_sem])) ?_; (repeat (first | simp (maxSteps := 2000000) (disch := omega) only [go_sem, ↓reduceIte] | with_reducible refine vIf_t ?_ | with_reducible refine vIf_f ?_)))
        (refine retK_of ?_; (repeat (first | simp (maxSteps := 2000000) (disch := omega) only [go_sem, ↓reduceIte] | with_reducible refine vIf_t ?_ | with_reducible refine vIf_f ?_)))
        try rfl
      | true =>
        rw [hw] at hv
        rw [if_pos hw] at ht
        (refine vCallX_of ?_; (repeat (first | simp (maxSteps := 2000000) (disch := omega) only [go_sem, ↓reduceIte] | with_reducible refine vIf_t ?_ | with_reducible refine vIf_f ?_)); refine vCall_eq (hv) (by simp (disch := omega) only [go_sem]) rfl (by first | exact Or.inl rfl | exact Or.inr ⟨rfl, rfl⟩ | (apply Or.inr; simp only [go_sem])) ?_; (repeat (first | simp (maxSteps := 2000000) (disch := omega) only [go_sem, ↓reduceIte] | with_reducible refine vIf_t ?_ | with_reducible refine vIf_f ?_)))
        by_cases e : pcT p = l
        · rw [er, if_pos ⟨hw, e⟩]
          rw [e] at ht
          (refine vCallX_of ?_; (repeat (first | simp (maxSteps := 2000000) (disch := omega) only [go_sem, ↓reduceIte] | with_reducible refine vIf_t ?_ | with_reducible refine vIf_f ?_)); refine vCall_eq (ht) (by simp (disch := omega) only [go_sem]) rfl (by first | exact Or.inl rfl | exact Or.inr ⟨rfl, rfl⟩ | (apply Or.inr; simp only [go_sem])) ?_; (repeat (first | simp (maxSteps := 2000000) (disch := omega) only [go_sem, ↓reduceIte] | with_reducible refine vIf_t ?_ | with_reducible refine vIf_f ?_)))
          (refine retK_of ?_; (repeat (first | simp (maxSteps := 2000000) (disch := omega) only [go_sem, ↓reduceIte] | with_reducible refine vIf_t ?_ | with_reducible refine vIf_f ?_)))
          try rfl
        · have nb := tx_bq e
          rw [er, if_neg (fun h => e h.2)]
          (refine vCallX_of ?_; (repeat (first | simp (maxSteps := 2000000) (disch := omega) only [go_sem, ↓reduceIte] | with_reducible refine vIf_t ?_ | with_reducible refine vIf_f ?_)); refine vCall_eq (ht) (by simp (disch := omega) only [go_sem]) rfl (by first | exact Or.inl rfl | exact Or.inr ⟨rfl, rfl⟩ | (apply Or.inr; simp only [go_sem])) ?_; (repeat (first | simp (maxSteps := 2000000) (disch := omega) only [go_sem, ↓reduceIte] | with_reducible refine vIf_t ?_ | with_reducible refine vIf_f ?_)))
          (try (repeat (first | simp (maxSteps := 2000000) (disch := omega) only [go_sem, ↓reduceIte, nb] | with_reducible refine vIf_t ?_ | with_reducible refine vIf_f ?_)))
          (refine retK_of ?_; (repeat (first | simp (maxSteps := 2000000) (disch := omega) only [go_sem, ↓reduceIte] | with_reducible refine vIf_t ?_ | with_reducible refine vIf_f ?_)))
          try rfl
  · have c5 : (((nums l).length : Int) != 4) = true := by simp; omega
    have er : rpO l = none := by unfold rpO; rw [if_neg (fun h => h5 h.1)]
    rw [er]
    (repeat (first | simp (maxSteps := 2000000) (disch := omega) only [go_sem, ↓reduceIte] | with_reducible refine vIf_t ?_ | with_reducible refine vIf_f ?_))
    (refine vCallX_of ?_; (repeat (first | simp (maxSteps := 2000000) (disch := omega) only [go_sem, ↓reduceIte] | with_reducible refine vIf_t ?_ | with_reducible refine vIf_f ?_)); refine vCall_eq (hnum) (by simp (disch := omega) only [go_sem]) rfl (by first | exact Or.inl rfl | exact Or.inr ⟨rfl, rfl⟩ | (apply Or.inr; simp only [go_sem])) ?_; (repeat (first | simp (maxSteps := 2000000) (disch := omega) only [go_sem, ↓reduceIte] | with_reducible refine vIf_t ?_ | with_reducible refine vIf_f ?_)))
    (try (repeat (first | simp (maxSteps := 2000000) (disch := omega) only [go_sem, ↓reduceIte, c5] | with_reducible refine vIf_t ?_ | with_reducible refine vIf_f ?_)))
    (refine retK_of ?_; (repeat (first | simp (maxSteps := 2000000) (disch := omega) only [go_sem, ↓reduceIte] | with_reducible refine vIf_t ?_ | with_reducible refine vIf_f ?_)))
    try rfl
theorem nosp (n : Int) : (32 : UInt8) ∉ itoa n := itoa_free n 32 rfl
/-- the parts of a parcel's text -/
def pcW (p : Pc) : List (List UInt8) := [35 :: itoa p.id, wOw, itoa p.owner, wAr, itoa p.area, wCl, itoa p.cls]
theorem pc_split (p : Pc) : splB 32 (pcT p) [] = pcW p := by
  have := splB_joB 32 (pcW p) (by simp [pcW]) (by
    intro x hx
    simp only [pcW, List.mem_cons, List.not_mem_nil, or_false] at hx
    rcases hx with rfl | rfl | rfl | rfl | rfl | rfl | rfl
    · intro h
      rcases List.mem_cons.1 h with h | h
      · cases h
      · exact nosp _ h
    all_goals first | exact nosp _ | (unfold wOw; decide) | (unfold wAr; decide) | (unfold wCl; decide))
  rw [← this]
  congr 1
  simp [pcT, pcP, txN, joB, pcW, wOw, wAr, wCl]
theorem rpO_parts {l : List UInt8} {p : Pc} (h : rpO l = some p) : splB 32 l [] = pcW p ∧ pcB p = true := by
  obtain ⟨h1, rfl⟩ := (rpO_iff l p).1 h
  exact ⟨pc_split p, h1⟩
theorem rpO_of {l : List UInt8} {p : Pc} (hb : pcB p = true) (h : splB 32 l [] = pcW p) : rpO l = some p := by
  refine (rpO_iff l p).2 ⟨hb, ?_⟩
  have hj := joB_splB 32 l []
  rw [List.nil_append, h] at hj
  rw [← hj]
  simp [pcT, pcP, txN, joB, pcW, wOw, wAr, wCl]
theorem rpO_none {l : List UInt8} (h : ∀ p, pcB p = true → splB 32 l [] = pcW p → False) : rpO l = none := by
  cases hr : rpO l with
  | none => rfl
  | some q => exact (h q (rpO_parts hr).2 (rpO_parts hr).1).elim
theorem splB_mlen32 (l : List UInt8) : ∀ x ∈ splB 32 l [], x.length ≤ l.length := by
  have key : ∀ (l cur : List UInt8), ∀ x ∈ splB 32 l cur, x.length ≤ cur.length + l.length := by
    intro l
    induction l with
    | nil => intro cur; simp [splB]
    | cons c r ih =>
      intro cur
      simp only [splB]
      split
      · intro x hx
        rcases List.mem_cons.1 hx with rfl | hx
        · omega
        · have := ih [] x hx; simp at this ⊢; omega
      · intro x hx; have := ih (cur ++ [c]) x hx; simp at this ⊢; omega
  intro x hx
  have := key l [] x hx
  simpa using this
theorem byteAtN (c : UInt8) (r : List UInt8) : byteAt (tx (c :: r)) 0 = (c.toNat : Int) := byteAt_tx (c :: r) 0 (by simp)
theorem rdR_E (o : Option Int) : rdR o = .tup [I (o.getD 0), B o.isSome] := by cases o <;> rfl
theorem l01NumE_ok (l : List UInt8) (hl : l.length ≤ 100000) : ACalls Tryz.prog 83 [St (tx l)] [] (fun r o => r = .tup [I ((rdD l).getD 0), B (rdD l).isSome] ∧ o = []) := by
  have h := l01Number_ok l hl
  rw [rdR_E] at h
  exact h
set_option maxRecDepth 20000 in
set_option maxHeartbeats 8000000 in
theorem readParcelS_ok (l : List UInt8) (ha : Asc l) (hl : l.length ≤ 10000) : ACalls Tryz.prog 22 [St (tx l)] [] (fun r o => r = rpV (rpO l) ∧ o = []) := by
  refine ACalls.of_vc Tryz.func22 rfl (by decide) 106 rfl [.cell 2 33, .tmp 3] rfl (by simp) ?_
  have hsp := l01Split_ok l 32 (by omega)
  have h32 : ((32 : UInt8).toNat : Int) = 32 := rfl
  rw [h32] at hsp
  have hsl := splB_len 32 l []
  have hml := splB_mlen32 l
  have hno := @rpO_none l
  have hyes := @rpO_of l
  generalize splB 32 l [] = ws at *
  (repeat (first | simp (maxSteps := 2000000) (disch := omega) only [go_sem, ↓reduceIte] | with_reducible refine vIf_t ?_ | with_reducible refine vIf_f ?_))
  (refine vCallX_of ?_; (repeat (first | simp (maxSteps := 2000000) (disch := omega) only [go_sem, ↓reduceIte] | with_reducible refine vIf_t ?_ | with_reducible refine vIf_f ?_)); refine vCall_eq (hsp) (by simp (disch := omega) only [go_sem]) rfl (by first | exact Or.inl rfl | exact Or.inr ⟨rfl, rfl⟩ | (apply Or.inr; simp only [go_sem])) ?_; (repeat (first | simp (maxSteps := 2000000) (disch := omega) only [go_sem, ↓reduceIte] | with_reducible refine vIf_t ?_ | with_reducible refine vIf_f ?_)))
  by_cases h7 : ws.length = 7
  · match ws, h7 with
    | [w0, w1, w2, w3, w4, w5, w6], _ =>
      have g0 : gs [tx w0, tx w1, tx w2, tx w3, tx w4, tx w5, tx w6] 0 = tx w0 := rfl
      have g1 : gs [tx w0, tx w1, tx w2, tx w3, tx w4, tx w5, tx w6] 1 = tx w1 := rfl
      have g2 : gs [tx w0, tx w1, tx w2, tx w3, tx w4, tx w5, tx w6] 2 = tx w2 := rfl
      have g3 : gs [tx w0, tx w1, tx w2, tx w3, tx w4, tx w5, tx w6] 3 = tx w3 := rfl
      have g4 : gs [tx w0, tx w1, tx w2, tx w3, tx w4, tx w5, tx w6] 4 = tx w4 := rfl
      have g5 : gs [tx w0, tx w1, tx w2, tx w3, tx w4, tx w5, tx w6] 5 = tx w5 := rfl
      have g6 : gs [tx w0, tx w1, tx w2, tx w3, tx w4, tx w5, tx w6] 6 = tx w6 := rfl
      have c7 : (((([w0, w1, w2, w3, w4, w5, w6] : List (List UInt8)).length : Nat) : Int) != 7) = false := rfl
      have fail : (w1 ≠ wOw ∨ w3 ≠ wAr ∨ w5 ≠ wCl ∨ w0.length < 2 ∨ w0.head? ≠ some 35 ∨ rdD (w0.drop 1) = none ∨ rdD w2 = none ∨ rdD w4 = none ∨ rdD w6 = none) → rpO l = none := by
        intro hh
        refine hno fun p hb e => ?_
        have O := pcO_of hb
        simp only [pcW, List.cons.injEq] at e
        obtain ⟨x0, x1, x2, x3, x4, x5, x6, _⟩ := e
        subst x0 x1 x2 x3 x4 x5 x6
        rcases hh with h | h | h | h | h | h | h | h | h
        · exact h rfl
        · exact h rfl
        · exact h rfl
        · have hi : itoa p.id ≠ [] := fun e => by
            have := rdD_itoa _ O.a
            rw [e, rdD_spec, if_neg (by simp [tailN])] at this
            cases this
          cases hx : itoa p.id with
          | nil => exact hi hx
          | cons a b => rw [hx] at h; simp at h; omega
        · exact h rfl
        · rw [show ((35 : UInt8) :: itoa p.id).drop 1 = itoa p.id from rfl, rdD_itoa _ O.a] at h; cases h
        · rw [rdD_itoa _ O.b] at h; cases h
        · rw [rdD_itoa _ O.c] at h; cases h
        · rw [rdD_itoa _ O.d] at h; cases h
      have l0 := hml w0 (by simp)
      have l2 := hml w2 (by simp)
      have l4 := hml w4 (by simp)
      have l6 := hml w6 (by simp)
      (try (repeat (first | simp (maxSteps := 2000000) (disch := omega) only [go_sem, ↓reduceIte, c7, g0, g1, g2, g3, g4, g5, g6] | with_reducible refine vIf_t ?_ | with_reducible refine vIf_f ?_)))
      by_cases e1 : w1 = [111, 119, 110, 101, 114]
      case neg =>
        have nb := tx_bq e1
        rw [fail (.inl e1)]
        (try (repeat (first | simp (maxSteps := 2000000) (disch := omega) only [go_sem, ↓reduceIte, nb] | with_reducible refine vIf_t ?_ | with_reducible refine vIf_f ?_)))
        (refine retK_of ?_; (repeat (first | simp (maxSteps := 2000000) (disch := omega) only [go_sem, ↓reduceIte] | with_reducible refine vIf_t ?_ | with_reducible refine vIf_f ?_)))
        try rfl
      subst e1
      (try (repeat (first | simp (maxSteps := 2000000) (disch := omega) only [go_sem, ↓reduceIte, g3] | with_reducible refine vIf_t ?_ | with_reducible refine vIf_f ?_)))
      by_cases e3 : w3 = [97, 114, 101, 97]
      case neg =>
        have nb := tx_bq e3
        rw [fail (.inr (.inl e3))]
        (try (repeat (first | simp (maxSteps := 2000000) (disch := omega) only [go_sem, ↓reduceIte, nb] | with_reducible refine vIf_t ?_ | with_reducible refine vIf_f ?_)))
        (refine retK_of ?_; (repeat (first | simp (maxSteps := 2000000) (disch := omega) only [go_sem, ↓reduceIte] | with_reducible refine vIf_t ?_ | with_reducible refine vIf_f ?_)))
        try rfl
      subst e3
      (try (repeat (first | simp (maxSteps := 2000000) (disch := omega) only [go_sem, ↓reduceIte, g5] | with_reducible refine vIf_t ?_ | with_reducible refine vIf_f ?_)))
      by_cases e5 : w5 = [99, 108, 97, 115, 115]
      case neg =>
        have nb := tx_bq e5
        rw [fail (.inr (.inr (.inl e5)))]
        (try (repeat (first | simp (maxSteps := 2000000) (disch := omega) only [go_sem, ↓reduceIte, nb] | with_reducible refine vIf_t ?_ | with_reducible refine vIf_f ?_)))
        (refine retK_of ?_; (repeat (first | simp (maxSteps := 2000000) (disch := omega) only [go_sem, ↓reduceIte] | with_reducible refine vIf_t ?_ | with_reducible refine vIf_f ?_)))
        try rfl
      subst e5
      (try (repeat (first | simp (maxSteps := 2000000) (disch := omega) only [go_sem, ↓reduceIte, g0] | with_reducible refine vIf_t ?_ | with_reducible refine vIf_f ?_)))
      match w0 with
      | [] =>
        rw [fail (.inr (.inr (.inr (.inl (by simp)))))]
        (try (repeat (first | simp (maxSteps := 2000000) (disch := omega) only [go_sem, ↓reduceIte] | with_reducible refine vIf_t ?_ | with_reducible refine vIf_f ?_)))
        (refine retK_of ?_; (repeat (first | simp (maxSteps := 2000000) (disch := omega) only [go_sem, ↓reduceIte] | with_reducible refine vIf_t ?_ | with_reducible refine vIf_f ?_)))
        try rfl
      | [c] =>
        rw [fail (.inr (.inr (.inr (.inl (by simp)))))]
        (try (repeat (first | simp (maxSteps := 2000000) (disch := omega) only [go_sem, ↓reduceIte] | with_reducible refine vIf_t ?_ | with_reducible refine vIf_f ?_)))
        (refine retK_of ?_; (repeat (first | simp (maxSteps := 2000000) (disch := omega) only [go_sem, ↓reduceIte] | with_reducible refine vIf_t ?_ | with_reducible refine vIf_f ?_)))
        try rfl
      | c :: d :: r =>
        have hc2 : decide ((((c :: d :: r).length : Nat) : Int) < 2) = false := decide_eq_false (by simp only [List.length_cons]; omega)
        by_cases hc : c = 35
        case neg =>
          have hcn : (((c.toNat : Nat) : Int) != 35) = true := by
            rw [bne_iff_ne]
            intro e
            exact hc (UInt8.toNat_inj.1 (by have : c.toNat = 35 := by omega
                                            rw [this]; rfl))
          rw [fail (.inr (.inr (.inr (.inr (.inl (by simpa using hc))))))]
          (try (repeat (first | simp (maxSteps := 2000000) (disch := omega) only [go_sem, ↓reduceIte, hc2, g0, byteAtN, hcn] | with_reducible refine vIf_t ?_ | with_reducible refine vIf_f ?_)))
          (refine retK_of ?_; (repeat (first | simp (maxSteps := 2000000) (disch := omega) only [go_sem, ↓reduceIte] | with_reducible refine vIf_t ?_ | with_reducible refine vIf_f ?_)))
          try rfl
        subst hc
        have hcn : (((UInt8.toNat 35 : Nat) : Int) != 35) = false := rfl
        have n1 := l01NumE_ok (d :: r) (by simp at l0 ⊢; omega)
        have n2 := l01NumE_ok w2 (by omega)
        have n3 := l01NumE_ok w4 (by omega)
        have n4 := l01NumE_ok w6 (by omega)
        have hex : (tx (35 :: d :: r)).extract 1 ((r.length : Int) + 1 + 1).toNat = tx (d :: r) := by
          rw [show ((r.length : Int) + 1 + 1).toNat = r.length + 2 by omega, tx_extract]
          simp
        (try (repeat (first | simp (maxSteps := 2000000) (disch := omega) only [go_sem, ↓reduceIte, hc2, g0, byteAtN, hcn] | with_reducible refine vIf_t ?_ | with_reducible refine vIf_f ?_)))
        (repeat (first | simp (maxSteps := 2000000) (disch := omega) only [go_sem, ↓reduceIte, hex] | with_reducible refine vIf_t ?_ | with_reducible refine vIf_f ?_))
        (refine vCallX_of ?_; (repeat (first | simp (maxSteps := 2000000) (disch := omega) only [go_sem, ↓reduceIte] | with_reducible refine vIf_t ?_ | with_reducible refine vIf_f ?_)); refine vCall_eq (n1) (by simp (disch := omega) only [go_sem]) rfl (by first | exact Or.inl rfl | exact Or.inr ⟨rfl, rfl⟩ | (apply Or.inr; simp only [go_sem])) ?_; (repeat (first | simp (maxSteps := 2000000) (disch := omega) only [go_sem, ↓reduceIte] | with_reducible refine vIf_t ?_ | with_reducible refine vIf_f ?_)))
        (repeat (first | simp (maxSteps := 2000000) (disch := omega) only [go_sem, ↓reduceIte, g2] | with_reducible refine vIf_t ?_ | with_reducible refine vIf_f ?_))
        (refine vCallX_of ?_; (repeat (first | simp (maxSteps := 2000000) (disch := omega) only [go_sem, ↓reduceIte] | with_reducible refine vIf_t ?_ | with_reducible refine vIf_f ?_)); refine vCall_eq (n2) (by simp (disch := omega) only [go_sem]) rfl (by first | exact Or.inl rfl | exact Or.inr ⟨rfl, rfl⟩ | (apply Or.inr; simp only [go_sem])) ?_; (repeat (first | simp (maxSteps := 2000000) (disch := omega) only [go_sem, ↓reduceIte] | with_reducible refine vIf_t ?_ | with_reducible refine vIf_f ?_)))
        (repeat (first | simp (maxSteps := 2000000) (disch := omega) only [go_sem, ↓reduceIte, g4] | with_reducible refine vIf_t ?_ | with_reducible refine vIf_f ?_))
        (refine vCallX_of ?_; (repeat (first | simp (maxSteps := 2000000) (disch := omega) only [go_sem, ↓reduceIte] | with_reducible refine vIf_t ?_ | with_reducible refine vIf_f ?_)); refine vCall_eq (n3) (by simp (disch := omega) only [go_sem]) rfl (by first | exact Or.inl rfl | exact Or.inr ⟨rfl, rfl⟩ | (apply Or.inr; simp only [go_sem])) ?_; (repeat (first | simp (maxSteps := 2000000) (disch := omega) only [go_sem, ↓reduceIte] | with_reducible refine vIf_t ?_ | with_reducible refine vIf_f ?_)))
        (repeat (first | simp (maxSteps := 2000000) (disch := omega) only [go_sem, ↓reduceIte, g6] | with_reducible refine vIf_t ?_ | with_reducible refine vIf_f ?_))
        (refine vCallX_of ?_; (repeat (first | simp (maxSteps := 2000000) (disch := omega) only [go_sem, ↓reduceIte] | with_reducible refine vIf_t ?_ | with_reducible refine vIf_f ?_)); refine vCall_eq (n4) (by simp (disch := omega) only [go_sem]) rfl (by first | exact Or.inl rfl | exact Or.inr ⟨rfl, rfl⟩ | (apply Or.inr; simp only [go_sem])) ?_; (repeat (first | simp (maxSteps := 2000000) (disch := omega) only [go_sem, ↓reduceIte] | with_reducible refine vIf_t ?_ | with_reducible refine vIf_f ?_)))
        cases r1 : rdD (d :: r) with
        | none =>
          rw [fail (.inr (.inr (.inr (.inr (.inr (.inl r1))))))]
          (try (repeat (first | simp (maxSteps := 2000000) (disch := omega) only [go_sem, ↓reduceIte, r1, Option.isSome_none] | with_reducible refine vIf_t ?_ | with_reducible refine vIf_f ?_)))
          (refine retK_of ?_; (repeat (first | simp (maxSteps := 2000000) (disch := omega) only [go_sem, ↓reduceIte] | with_reducible refine vIf_t ?_ | with_reducible refine vIf_f ?_)))
          try rfl
        | some a1 =>
          cases r2 : rdD w2 with
          | none =>
            rw [fail (.inr (.inr (.inr (.inr (.inr (.inr (.inl r2)))))))]
            (try (repeat (first | simp (maxSteps := 2000000) (disch := omega) only [go_sem, ↓reduceIte, r1, r2, Option.isSome_none, Option.isSome_some] | with_reducible refine vIf_t ?_ | with_reducible refine vIf_f ?_)))
            (refine retK_of ?_; (repeat (first | simp (maxSteps := 2000000) (disch := omega) only [go_sem, ↓reduceIte] | with_reducible refine vIf_t ?_ | with_reducible refine vIf_f ?_)))
            try rfl
          | some a2 =>
            cases r3 : rdD w4 with
            | none =>
              rw [fail (.inr (.inr (.inr (.inr (.inr (.inr (.inr (.inl r3))))))))]
              (try (repeat (first | simp (maxSteps := 2000000) (disch := omega) only [go_sem, ↓reduceIte, r1, r2, r3, Option.isSome_none, Option.isSome_some] | with_reducible refine vIf_t ?_ | with_reducible refine vIf_f ?_)))
              (refine retK_of ?_; (repeat (first | simp (maxSteps := 2000000) (disch := omega) only [go_sem, ↓reduceIte] | with_reducible refine vIf_t ?_ | with_reducible refine vIf_f ?_)))
              try rfl
            | some a3 =>
              cases r4 : rdD w6 with
              | none =>
                rw [fail (.inr (.inr (.inr (.inr (.inr (.inr (.inr (.inr r4))))))))]
                (try (repeat (first | simp (maxSteps := 2000000) (disch := omega) only [go_sem, ↓reduceIte, r1, r2, r3, r4, Option.isSome_none, Option.isSome_some] | with_reducible refine vIf_t ?_ | with_reducible refine vIf_f ?_)))
                (refine retK_of ?_; (repeat (first | simp (maxSteps := 2000000) (disch := omega) only [go_sem, ↓reduceIte] | with_reducible refine vIf_t ?_ | with_reducible refine vIf_f ?_)))
                try rfl
              | some a4 =>
                have hv := l19OneP_ok ⟨a1, a2, a3, a4⟩
                have e1 := ((rdD_iff _ _).1 r1).1
                have e2 := ((rdD_iff _ _).1 r2).1
                have e3 := ((rdD_iff _ _).1 r3).1
                have e4 := ((rdD_iff _ _).1 r4).1
                have hw : ([35 :: d :: r, [111, 119, 110, 101, 114], w2, [97, 114, 101, 97], w4, [99, 108, 97, 115, 115], w6] : List (List UInt8)) = pcW ⟨a1, a2, a3, a4⟩ := by
                  simp only [pcW, e1, e2, e3, e4, wOw, wAr, wCl]
                cases hb : pcB ⟨a1, a2, a3, a4⟩ with
                | true =>
                  rw [hb] at hv
                  rw [hyes hb hw]
                  unfold Pc.cells at hv
                  simp only at hv
                  (try (repeat (first | simp (maxSteps := 2000000) (disch := omega) only [go_sem, ↓reduceIte, r1, r2, r3, r4, Option.isSome_some, Option.getD_some] | with_reducible refine vIf_t ?_ | with_reducible refine vIf_f ?_)))
                  (refine vCallX_of ?_; (repeat (first | simp (maxSteps := 2000000) (disch := omega) only [go_sem, ↓reduceIte] | with_reducible refine vIf_t ?_ | with_reducible refine vIf_f ?_)); refine vCall_eq (hv) (by simp (disch := omega) only [go_sem]) rfl (by first | exact Or.inl rfl | exact Or.inr ⟨rfl, rfl⟩ | (apply Or.inr; simp only [go_sem])) ?_; (repeat (first | simp (maxSteps := 2000000) (disch := omega) only [go_sem, ↓reduceIte] | with_reducible refine vIf_t ?_ | with_reducible refine vIf_f ?_)))
                  (refine retK_of ?_; (repeat (first | simp (maxSteps := 2000000) (disch := omega) only [go_sem, ↓reduceIte] | with_reducible refine vIf_t ?_ | with_reducible refine vIf_f ?_)))
                  try rfl
                | false =>
                  rw [hb] at hv
                  have hn : rpO l = none := hno fun q hq e => by
                    have : q = ⟨a1, a2, a3, a4⟩ := by
                      have O := pcO_of hq
                      rw [hw] at e
                      simp only [pcW, List.cons.injEq] at e
                      obtain ⟨⟨_, x0⟩, _, x2, _, x4, _, x6, _⟩ := e
                      have f1 := rdD_itoa _ O.a
                      have f2 := rdD_itoa _ O.b
                      have f3 := rdD_itoa _ O.c
                      have f4 := rdD_itoa _ O.d
                      rw [← x0, e1, r1] at f1
                      rw [← x2, e2, r2] at f2
                      rw [← x4, e3, r3] at f3
                      rw [← x6, e4, r4] at f4
                      simp only [Option.some.injEq] at f1 f2 f3 f4
                      cases q
                      simp only at f1 f2 f3 f4
                      rw [f1, f2, f3, f4]
                    rw [this, hb] at hq; cases hq
                  rw [hn]
                  unfold Pc.cells at hv
                  simp only at hv
                  (try (repeat (first | simp (maxSteps := 2000000) (disch := omega) only [go_sem, ↓reduceIte, r1, r2, r3, r4, Option.isSome_some, Option.getD_some] | with_reducible refine vIf_t ?_ | with_reducible refine vIf_f ?_)))
                  (refine vCallX_of ?_; (repeat (first | simp (maxSteps := 2000000) (disch := omega) only [go_sem, ↓reduceIte] | with_reducible refine vIf_t ?_ | with_reducible refine vIf_f ?_)); refine vCall_eq (hv) (by simp (disch := omega) only [go_sem]) rfl (by first | exact Or.inl rfl | exact Or.inr ⟨rfl, rfl⟩ | (apply Or.inr; simp only [go_sem])) ?_; (repeat (first | simp (maxSteps := 2000000) (disch := omega) only [go_sem, ↓reduceIte] | with_reducible refine vIf_t ?_ | with_reducible refine vIf_f ?_)))
                  (refine retK_of ?_; (repeat (first | simp (maxSteps := 2000000) (disch := omega) only [go_sem, ↓reduceIte] | with_reducible refine vIf_t ?_ | with_reducible refine vIf_f ?_)))
                  try rfl
  · have c7 : ((ws.length : Int) != 7) = true := by simp; omega
    rw [hno (fun p _ e => h7 (by rw [e]; rfl))]
    (try (repeat (first | simp (maxSteps := 2000000) (disch := omega) only [go_sem, ↓reduceIte, c7] | with_reducible refine vIf_t ?_ | with_reducible refine vIf_f ?_)))
    (refine retK_of ?_; (repeat (first | simp (maxSteps := 2000000) (disch := omega) only [go_sem, ↓reduceIte] | with_reducible refine vIf_t ?_ | with_reducible refine vIf_f ?_)))
    try rfl
set_option maxRecDepth 20000 in
theorem drawRP_e {code : List Int} (g : SrOk code) : ACalls Tryz.prog 21 [bS code] [] (fun r o => ∃ (l : List UInt8), r = St (tx l) ∧ o = [] ∧ Asc l ∧ l.length ≤ 400) := by
  refine ACalls.of_vc Tryz.func21 rfl (by decide) 22 rfl [.tmp 2] rfl (by simp) ?_
  have hf := from_e g
  unfold bS at hf ⊢
  (repeat (first | simp (maxSteps := 2000000) (disch := omega) only [go_sem, ↓reduceIte] | with_reducible refine vIf_t ?_ | with_reducible refine vIf_f ?_))
  (refine vCallX_of ?_; (repeat (first | simp (maxSteps := 2000000) (disch := omega) only [go_sem, ↓reduceIte] | with_reducible refine vIf_t ?_ | with_reducible refine vIf_f ?_)); refine vCall_eq (hf) (by simp (disch := omega) only [go_sem]) rfl (by first | exact Or.inl rfl | exact Or.inr ⟨rfl, rfl⟩ | (apply Or.inr; simp only [go_sem])) ?_; (repeat (first | simp (maxSteps := 2000000) (disch := omega) only [go_sem, ↓reduceIte] | with_reducible refine vIf_t ?_ | with_reducible refine vIf_f ?_)))
  (refine vCallX_io [0] ?_; (repeat (first | simp (maxSteps := 2000000) (disch := omega) only [go_sem, ↓reduceIte] | with_reducible refine vIf_t ?_ | with_reducible refine vIf_f ?_)); refine vCallIO_ex (pick_e g 100 ⟨0, 0⟩ (by simp)) (by simp (disch := omega) only [go_sem]) (by simp (disch := omega) only [go_sem]) (by first | rfl | (simp (disch := omega) only [go_sem])) (by first | rfl | (simp (disch := omega) only [go_sem])) (by first | rfl | (simp (disch := omega) only [go_sem])) ?_); rintro _ _ ⟨v1, σ2, rfl, rfl, h3, h4, h5⟩; (refine ⟨by first | (simp (disch := omega) only [go_sem]) | trivial, ?_⟩; (repeat (first | simp (maxSteps := 2000000) (disch := omega) only [go_sem, ↓reduceIte] | with_reducible refine vIf_t ?_ | with_reducible refine vIf_f ?_)))
  simp only at h5
  (refine vCallX_io [0] ?_; (repeat (first | simp (maxSteps := 2000000) (disch := omega) only [go_sem, ↓reduceIte] | with_reducible refine vIf_t ?_ | with_reducible refine vIf_f ?_)); refine vCallIO_ex (l19NewR_e g σ2 (1 + v1) (by omega) (by omega)) (by simp (disch := omega) only [go_sem]) (by simp (disch := omega) only [go_sem]) (by first | rfl | (simp (disch := omega) only [go_sem])) (by first | rfl | (simp (disch := omega) only [go_sem])) (by first | rfl | (simp (disch := omega) only [go_sem])) ?_); rintro _ _ ⟨p, σ3, rfl, rfl, hD, h6⟩; (refine ⟨by first | (simp (disch := omega) only [go_sem]) | trivial, ?_⟩; (repeat (first | simp (maxSteps := 2000000) (disch := omega) only [go_sem, ↓reduceIte] | with_reducible refine vIf_t ?_ | with_reducible refine vIf_f ?_)))
  have ht := l19Text_ok p hD.n
  have hl := pcT_len hD.n
  unfold Pc.cells at ht ⊢
  (repeat (first | simp (maxSteps := 2000000) (disch := omega) only [go_sem, ↓reduceIte] | with_reducible refine vIf_t ?_ | with_reducible refine vIf_f ?_))
  (refine vCallX_of ?_; (repeat (first | simp (maxSteps := 2000000) (disch := omega) only [go_sem, ↓reduceIte] | with_reducible refine vIf_t ?_ | with_reducible refine vIf_f ?_)); refine vCall_eq (ht) (by simp (disch := omega) only [go_sem]) rfl (by first | exact Or.inl rfl | exact Or.inr ⟨rfl, rfl⟩ | (apply Or.inr; simp only [go_sem])) ?_; (repeat (first | simp (maxSteps := 2000000) (disch := omega) only [go_sem, ↓reduceIte] | with_reducible refine vIf_t ?_ | with_reducible refine vIf_f ?_)))
  (refine vCallX_io [0] ?_; (repeat (first | simp (maxSteps := 2000000) (disch := omega) only [go_sem, ↓reduceIte] | with_reducible refine vIf_t ?_ | with_reducible refine vIf_f ?_)); refine vCallIO_ex (one_e g 3 σ3 (by omega)) (by simp (disch := omega) only [go_sem]) (by simp (disch := omega) only [go_sem]) (by first | rfl | (simp (disch := omega) only [go_sem])) (by first | rfl | (simp (disch := omega) only [go_sem])) (by first | rfl | (simp (disch := omega) only [go_sem])) ?_); rintro _ _ ⟨b, σ4, rfl, rfl, h7⟩; (refine ⟨by first | (simp (disch := omega) only [go_sem]) | trivial, ?_⟩; (repeat (first | simp (maxSteps := 2000000) (disch := omega) only [go_sem, ↓reduceIte] | with_reducible refine vIf_t ?_ | with_reducible refine vIf_f ?_)))
  cases b with
  | true =>
    (repeat (first | simp (maxSteps := 2000000) (disch := omega) only [go_sem, ↓reduceIte] | with_reducible refine vIf_t ?_ | with_reducible refine vIf_f ?_))
    (refine vCallX_io [0] ?_; (repeat (first | simp (maxSteps := 2000000) (disch := omega) only [go_sem, ↓reduceIte] | with_reducible refine vIf_t ?_ | with_reducible refine vIf_f ?_)); refine vCallIO_ex (l01Spoil_e g σ4 (pcT p) (by omega) (by omega) (pcT_asc p)) (by simp (disch := omega) only [go_sem]) (by simp (disch := omega) only [go_sem]) (by first | rfl | (simp (disch := omega) only [go_sem])) (by first | rfl | (simp (disch := omega) only [go_sem])) (by first | rfl | (simp (disch := omega) only [go_sem])) ?_); rintro _ _ ⟨l, σ5, rfl, rfl, h8, h9⟩; (refine ⟨by first | (simp (disch := omega) only [go_sem]) | trivial, ?_⟩; (repeat (first | simp (maxSteps := 2000000) (disch := omega) only [go_sem, ↓reduceIte] | with_reducible refine vIf_t ?_ | with_reducible refine vIf_f ?_)))
    (refine retK_of ?_; (repeat (first | simp (maxSteps := 2000000) (disch := omega) only [go_sem, ↓reduceIte] | with_reducible refine vIf_t ?_ | with_reducible refine vIf_f ?_)))
    exact ⟨l, rfl, h8, by omega⟩
  | false =>
    (repeat (first | simp (maxSteps := 2000000) (disch := omega) only [go_sem, ↓reduceIte] | with_reducible refine vIf_t ?_ | with_reducible refine vIf_f ?_))
    (refine retK_of ?_; (repeat (first | simp (maxSteps := 2000000) (disch := omega) only [go_sem, ↓reduceIte] | with_reducible refine vIf_t ?_ | with_reducible refine vIf_f ?_)))
    exact ⟨_, rfl, pcT_asc p, by omega⟩
end Go.Proofs.YtbbdfifpncjpnaaGreatDoor

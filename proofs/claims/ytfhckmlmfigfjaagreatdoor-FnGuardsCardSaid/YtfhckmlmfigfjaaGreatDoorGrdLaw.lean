/- the law of guards -/
import Derived.Test.YtfhckmlmfigfjaaGreatDoorGrdH
set_option linter.unusedVariables false
set_option linter.unusedSimpArgs false
namespace Go.Proofs.YtfhckmlmfigfjaaGreatDoor
-- steps 40000000
open Go.AG Go.Lib

attribute [local go_sem] beq_self_eq_true bne_self_eq_false Bool.not_true
structure BoxGd (G : Prop) : Prop where
  out : G
theorem joinGd {G H : Prop} (h : BoxGd G → H) (g : G) : H := h ⟨g⟩
noncomputable def gwW (l : List UInt8) : Gd := (rgO l).getD ⟨tx [], 0, 0⟩
noncomputable def gwB (l : List UInt8) : Bool := (rgO l).isSome
theorem rgV_eq (l : List UInt8) : rgV (rgO l) = .tup [.agg [St (gwW l).name, I (gwW l).fr, I (gwW l).tw], B (gwB l)] := by
  unfold gwW gwB
  cases rgO l <;> rfl
theorem gtT_ne (g : Gd) : gtT g ≠ [] := by rw [gtT_eq]; simp
theorem backG_t {p : Gd} (h : gdB p = true) : rgO (gtT p) = some p := (rgO_iff _ _).2 ⟨h, rfl⟩
theorem backG_f : rgO [] = none := rgO_none fun g _ e => gtT_ne g e
theorem txg_ne {l : List UInt8} : (!((tx l).toList == (tx []).toList)) = !l.isEmpty := by rw [tx_nb]
/-! facts of the plain law -/
theorem ixs_nilG {n : Nat} {q : Nat → Bool} (h : ∀ i, i < n → q i = false) : ixs n q = [] := by
  induction n with
  | zero => rfl
  | succ n ih => rw [ixs_no (h n (by omega))]; exact ih fun i hi => h i (by omega)
theorem gaV_no {ds : List Gd} {L x : Int} (h : leC ds L = 0) (hx : 0 ≤ x ∧ x < L) (hn : noK ds x) : gaC ds x = 0 ∧ gaV ds x = [] := by
  obtain ⟨h1, h2, h3⟩ := leC_0 h
  have e : gaC ds x = 0 := by unfold gaC; rw [if_pos h1, if_pos (by omega)]
  exact ⟨e, by unfold gaV; rw [if_pos e]; exact ixs_nilG hn⟩
theorem gr_mem (xs : List (List Int)) (i : Nat) (h : i < xs.length) : gr xs i ∈ xs := by
  unfold gr
  rw [List.getD_eq_getElem?_getD, List.getElem?_eq_getElem h]
  exact List.getElem_mem h
structure PlF (ds : List Gd) (p : List Int) (x y : Int) : Prop where
  e : p = [x, y]
  lt : x < y
  b : 0 ≤ x ∧ y ≤ 300000
  c1 : gaC ds x = 0
  v1 : gaV ds x = []
  c2 : gaC ds (y - 1) = 0
  v2 : gaV ds (y - 1) = []
theorem places_fact (ds : List Gd) (L : Int) (i : Nat) (hi : i < (upV ds L).length) : ∃ x y, PlF ds (gr (upV ds L) i) x y := by
  have hm := gr_mem _ i hi
  by_cases h : leC ds L = 0
  · have e : upV ds L = upR ds L [] 0 := by unfold upV; rw [if_pos h]
    rw [e] at hm ⊢
    obtain ⟨x, y, h1, h2, h3, h4, h5, h6⟩ := upR_prt ds L _ [] 0 (Int.le_refl _) (Nat.le_refl _) (by simp) _ hm
    obtain ⟨_, k1, k2⟩ := leC_0 h
    obtain ⟨a1, a2⟩ := gaV_no h ⟨h2, by omega⟩ h5
    obtain ⟨a3, a4⟩ := gaV_no h ⟨by omega, by omega⟩ h6
    exact ⟨x, y, h1, h3, ⟨h2, by omega⟩, a1, a2, a3, a4⟩
  · have e : upV ds L = [] := by unfold upV; rw [if_neg h]
    rw [e] at hi; simp at hi
theorem upR_bd (ds : List Gd) (L : Int) (f : Nat) : ∀ (a : List (List Int)) (m : Int), (L - m).toNat ≤ f → (upR ds L a m).length ≤ a.length + f := by
  induction f with
  | zero => intro a m hf; rw [upR_end (by omega)]; omega
  | succ f ih =>
    intro a m hf
    by_cases c : m < L
    · by_cases d : 0 ≤ rcN ds m
      · rw [upR_cov c d]
        have := ih a (m + 1) (by omega)
        omega
      · rw [upR_part c d]
        have u : m < nxN ds L m := (nxK_lo ds L m c ds.length).1
        have := ih (a ++ [[m, nxN ds L m]]) (nxN ds L m) (by omega)
        simp at this
        omega
    · rw [upR_end c]; omega
theorem upV_len (ds : List Gd) (L : Int) : (upV ds L).length ≤ 300000 := by
  unfold upV
  split
  · rename_i h
    obtain ⟨_, k1, k2⟩ := leC_0 h
    have := upR_bd ds L _ [] 0 (Nat.le_refl _)
    simp at this
    omega
  · simp
theorem fwR_ne (ds : List Gd) (L : Int) (f : Nat) : ∀ (a : List Int) (m : Int), (L - m).toNat ≤ f → (fwR ds L a m).2 ≠ 0 → (fwR ds L a m).1 = [] := by
  induction f with
  | zero => intro a m hf h; rw [fwR_end (by omega)] at h; simp at h
  | succ f ih =>
    intro a m hf h
    by_cases c : m < L
    · by_cases d : 0 ≤ rcN ds m
      · have w := rcN_tw d
        rw [fwR_go c d] at h ⊢
        exact ih _ _ (by omega) h
      · rw [fwR_no c (by omega)]
    · rw [fwR_end c] at h; simp at h
structure FwF (ds : List Gd) (L : Int) (M : List Int) : Prop where
  n : 0 < M.length
  j : ∀ j, j < M.length → (0 ≤ gi M j ∧ (gi M j).toNat < ds.length) ∧ (gGd ds (gi M j).toNat).fr ≤ stA ds M j ∧ stA ds M j < (gGd ds (gi M j).toNat).tw
  e : L ≤ stA ds M M.length
  l : M.length ≤ 300000
  s : ∀ j, j < M.length → stA ds M (j + 1) = (gGd ds (gi M j).toNat).tw
theorem fw_fact {ds : List Gd} {L : Int} (h : fwC ds L = 0) : FwF ds L (fwV ds L) := by
  have h0 : leC ds L = 0 := by
    unfold fwC at h
    split at h
    · assumption
    · exact absurd h ‹_›
  have h2 : (fwR ds L [] 0).2 = 0 := by unfold fwC at h; rw [if_pos h0] at h; exact h
  obtain ⟨hok, k1, k2⟩ := leC_0 h0
  obtain ⟨t, e, hc⟩ := fwR_chn ds L _ [] 0 (Nat.le_refl _) h2
  have ev : fwV ds L = t := by unfold fwV; rw [if_pos h0, e]; rfl
  rw [ev]
  have at_ := chn_at t 0 hc
  have en := chn_end t 0 hc
  have st : ∀ j, j < t.length → stA ds t (j + 1) = (gGd ds (gi t j).toNat).tw := fun j hj => by
    unfold stA twA
    rw [if_neg (by omega)]
    rfl
  have jj : ∀ j, j < t.length → (0 ≤ gi t j ∧ (gi t j).toNat < ds.length) ∧ (gGd ds (gi t j).toNat).fr ≤ stA ds t j ∧ stA ds t j < (gGd ds (gi t j).toNat).tw := fun j hj => at_ j hj
  have ge : ∀ j, j ≤ t.length → (j : Int) ≤ stA ds t j := by
    intro j
    induction j with
    | zero => intro _; simp [stA]
    | succ j ih =>
      intro hj
      have := ih (by omega)
      have := jj j (by omega)
      rw [st j (by omega)]
      push_cast
      omega
  refine ⟨?_, jj, en, ?_, st⟩
  · rcases Nat.eq_zero_or_pos t.length with h3 | h3
    · rw [h3] at en; simp at en; omega
    · exact h3
  · rcases Nat.eq_zero_or_pos t.length with h3 | h3
    · omega
    · have g1 := ge t.length (Nat.le_refl _)
      have g2 := st (t.length - 1) (by omega)
      rw [show t.length - 1 + 1 = t.length by omega] at g2
      have g3 := okG_gd hok (jj (t.length - 1) (by omega)).1.2
      omega
theorem fwV_len (ds : List Gd) (L : Int) : (fwV ds L).length ≤ 300000 := by
  by_cases h : fwC ds L = 0
  · exact (fw_fact h).l
  · unfold fwV
    split
    · rename_i h0
      unfold fwC at h
      rw [if_pos h0] at h
      rw [fwR_ne ds L _ [] 0 (Nat.le_refl _) h]
      simp
    · simp
theorem un_fact {ds : List Gd} {L : Int} (h : upC ds L = 0) : (upV ds L).length = 0 ↔ fwC ds L = 0 := by
  have h0 : leC ds L = 0 := h
  have e1 : upV ds L = upR ds L [] 0 := by unfold upV; rw [if_pos h0]
  have e2 : fwC ds L = (fwR ds L [] 0).2 := by unfold fwC; rw [if_pos h0]
  rw [e1, e2, ← un_fw, List.length_eq_zero_iff]
theorem fw_up {ds : List Gd} {L : Int} (h : fwC ds L = 0) : upC ds L = 0 := by
  unfold fwC at h
  split at h
  · assumption
  · exact absurd h ‹_›
theorem gaV_len (ds : List Gd) (m : Int) : (gaV ds m).length ≤ ds.length := by
  unfold gaV
  split
  · exact ixs_len _ _
  · simp
theorem adV_len (ds : List Gd) (g : Gd) : (adV ds g).length ≤ ds.length + 1 := by
  unfold adV
  split <;> simp
theorem validGdS_ok (ds : List Gd) (hZ : NmZ ds) (hl : ds.length ≤ 10000000) : ACalls Tryz.prog 31 [.sl ds.length (cGd ds)] [] (fun r o => r = B (okG ds) ∧ o = []) := by
  refine ACalls.of_vc Tryz.func31 rfl (by decide) 5 rfl [.tmp 2] rfl (by simp) ?_
  have h := validGS_ok ds hZ hl
  (repeat (first | simp (maxSteps := 40000000) (disch := omega) only [go_sem, ↓reduceIte] | with_reducible refine vIf_t ?_ | with_reducible refine vIf_f ?_))
  (refine vCallX_of ?_; (repeat (first | simp (maxSteps := 40000000) (disch := omega) only [go_sem, ↓reduceIte] | with_reducible refine vIf_t ?_ | with_reducible refine vIf_f ?_)); refine vCall_eq (h) (by simp (disch := omega) only [go_sem]) rfl (by first | exact Or.inl rfl | exact Or.inr ⟨rfl, rfl⟩ | (apply Or.inr; simp only [go_sem])) ?_; (repeat (first | simp (maxSteps := 40000000) (disch := omega) only [go_sem, ↓reduceIte] | with_reducible refine vIf_t ?_ | with_reducible refine vIf_f ?_)))
  (refine retK_of ?_; (repeat (first | simp (maxSteps := 40000000) (disch := omega) only [go_sem, ↓reduceIte] | with_reducible refine vIf_t ?_ | with_reducible refine vIf_f ?_)))
set_option maxRecDepth 100000 in
set_option maxHeartbeats 64000000 in
theorem guardsLaw_ok (code : List Int) (hb : bOk code) (hl : code.length ≤ 9223372036854775807) : ACalls Tryz.prog 3 [bS code] [] (fun r o => r = B true ∧ o = []) := by
  refine ACalls.of_vc Tryz.func3 rfl (by decide) 344 rfl [.tmp 2] rfl (by simp) ?_
  have hbig := f6big_ok code hl
  unfold bS at hbig ⊢
  (repeat (first | simp (maxSteps := 40000000) (disch := omega) only [go_sem, ↓reduceIte] | with_reducible refine vIf_t ?_ | with_reducible refine vIf_f ?_))
  (refine vCallX_of ?_; (repeat (first | simp (maxSteps := 40000000) (disch := omega) only [go_sem, ↓reduceIte] | with_reducible refine vIf_t ?_ | with_reducible refine vIf_f ?_)); refine vCall_eq (hbig) (by simp (disch := omega) only [go_sem]) rfl (by first | exact Or.inl rfl | exact Or.inr ⟨rfl, rfl⟩ | (apply Or.inr; simp only [go_sem])) ?_; (repeat (first | simp (maxSteps := 40000000) (disch := omega) only [go_sem, ↓reduceIte] | with_reducible refine vIf_t ?_ | with_reducible refine vIf_f ?_)))
  refine vIf_dec (fun h => ?_) (fun h => ?_)
  · (repeat (first | simp (maxSteps := 40000000) (disch := omega) only [go_sem, ↓reduceIte] | with_reducible refine vIf_t ?_ | with_reducible refine vIf_f ?_))
    (refine retK_of ?_; (repeat (first | simp (maxSteps := 40000000) (disch := omega) only [go_sem, ↓reduceIte] | with_reducible refine vIf_t ?_ | with_reducible refine vIf_f ?_)))
  have g : SrOk code := ⟨hb, by omega⟩
  have hd1 := drawFG_e g
  have hd2 := drawAG_e g
  have hd3 := drawGA_e g
  have hd4 := drawGT_e g
  have hd5 := drawRG_e g
  have hd6 := drawSG_e g
  unfold Gd.cells at hd2 hd4
  unfold bS at hd1 hd2 hd3 hd4 hd5 hd6
  (repeat (first | simp (maxSteps := 40000000) (disch := omega) only [go_sem, ↓reduceIte] | with_reducible refine vIf_t ?_ | with_reducible refine vIf_f ?_))
  (refine vCallX_of ?_; (repeat (first | simp (maxSteps := 40000000) (disch := omega) only [go_sem, ↓reduceIte] | with_reducible refine vIf_t ?_ | with_reducible refine vIf_f ?_)); refine vCall_ex (hd1) (by simp (disch := omega) only [go_sem]) rfl ?_); rintro _ _ ⟨ds, L, rfl, rfl, o1⟩; (refine ⟨(by first | exact Or.inl rfl | exact Or.inr ⟨rfl, rfl⟩ | (apply Or.inr; simp only [go_sem])), ?_⟩; (repeat (first | simp (maxSteps := 40000000) (disch := omega) only [go_sem, ↓reduceIte] | with_reducible refine vIf_t ?_ | with_reducible refine vIf_f ?_)))
  have hn1 := o1.n
  have hz1 := o1.nz
  have p1 := RowR.fz (fewest_ok ds L hz1 (by omega))
  have p2 := RowR.fz (fewestS_ok ds L hz1 (by omega))
  have p3 := RwsR.fz (unknown_ok ds L hz1 (by omega))
  have p4 := RwsR.fz (unknownS_ok ds L hz1 (by omega))
  have hml := fwV_len ds L
  have hul := upV_len ds L
  have F1 := places_fact ds L
  have F2 := @fw_fact ds L
  have F3 := @un_fact ds L
  have F4 := @fw_up ds L
  generalize fwV ds L = M at *
  generalize upV ds L = U at *
  generalize fwC ds L = k1 at *
  generalize upC ds L = k2 at *
  (refine vCallX_keep [3, 4, 0, 51, 52] rfl ?_; (repeat (first | simp (maxSteps := 40000000) (disch := omega) only [go_sem, ↓reduceIte] | with_reducible refine vIf_t ?_ | with_reducible refine vIf_f ?_)))
  (refine vCallX_of ?_; (repeat (first | simp (maxSteps := 40000000) (disch := omega) only [go_sem, ↓reduceIte] | with_reducible refine vIf_t ?_ | with_reducible refine vIf_f ?_)); refine vCall_eq (p1) (by simp (disch := omega) only [go_sem]) rfl (by first | exact Or.inl rfl | exact Or.inr ⟨rfl, rfl⟩ | (apply Or.inr; simp only [go_sem])) ?_; (repeat (first | simp (maxSteps := 40000000) (disch := omega) only [go_sem, ↓reduceIte] | with_reducible refine vIf_t ?_ | with_reducible refine vIf_f ?_)))
  (refine vCallX_keep [3, 4, 6, 5, 0, 57, 58] rfl ?_; (repeat (first | simp (maxSteps := 40000000) (disch := omega) only [go_sem, ↓reduceIte] | with_reducible refine vIf_t ?_ | with_reducible refine vIf_f ?_)))
  (refine vCallX_of ?_; (repeat (first | simp (maxSteps := 40000000) (disch := omega) only [go_sem, ↓reduceIte] | with_reducible refine vIf_t ?_ | with_reducible refine vIf_f ?_)); refine vCall_eq (p2) (by simp (disch := omega) only [go_sem]) rfl (by first | exact Or.inl rfl | exact Or.inr ⟨rfl, rfl⟩ | (apply Or.inr; simp only [go_sem])) ?_; (repeat (first | simp (maxSteps := 40000000) (disch := omega) only [go_sem, ↓reduceIte] | with_reducible refine vIf_t ?_ | with_reducible refine vIf_f ?_)))
  (refine vCallX_keep [3, 7, 4, 6, 5, 8, 0, 63, 64] rfl ?_; (repeat (first | simp (maxSteps := 40000000) (disch := omega) only [go_sem, ↓reduceIte] | with_reducible refine vIf_t ?_ | with_reducible refine vIf_f ?_)))
  (refine vCallX_of ?_; (repeat (first | simp (maxSteps := 40000000) (disch := omega) only [go_sem, ↓reduceIte] | with_reducible refine vIf_t ?_ | with_reducible refine vIf_f ?_)); refine vCall_eq (p3) (by simp (disch := omega) only [go_sem]) rfl (by first | exact Or.inl rfl | exact Or.inr ⟨rfl, rfl⟩ | (apply Or.inr; simp only [go_sem])) ?_; (repeat (first | simp (maxSteps := 40000000) (disch := omega) only [go_sem, ↓reduceIte] | with_reducible refine vIf_t ?_ | with_reducible refine vIf_f ?_)))
  (refine vCallX_keep [3, 7, 4, 6, 10, 9, 5, 8, 0, 69, 70] rfl ?_; (repeat (first | simp (maxSteps := 40000000) (disch := omega) only [go_sem, ↓reduceIte] | with_reducible refine vIf_t ?_ | with_reducible refine vIf_f ?_)))
  (refine vCallX_of ?_; (repeat (first | simp (maxSteps := 40000000) (disch := omega) only [go_sem, ↓reduceIte] | with_reducible refine vIf_t ?_ | with_reducible refine vIf_f ?_)); refine vCall_eq (p4) (by simp (disch := omega) only [go_sem]) rfl (by first | exact Or.inl rfl | exact Or.inr ⟨rfl, rfl⟩ | (apply Or.inr; simp only [go_sem])) ?_; (repeat (first | simp (maxSteps := 40000000) (disch := omega) only [go_sem, ↓reduceIte] | with_reducible refine vIf_t ?_ | with_reducible refine vIf_f ?_)))
  (refine vCallX_keep [11, 3, 7, 4, 6, 10, 9, 12, 5, 8, 0, 75] rfl ?_; (repeat (first | simp (maxSteps := 40000000) (disch := omega) only [go_sem, ↓reduceIte] | with_reducible refine vIf_t ?_ | with_reducible refine vIf_f ?_)))
  (refine vCallX_of ?_; (repeat (first | simp (maxSteps := 40000000) (disch := omega) only [go_sem, ↓reduceIte] | with_reducible refine vIf_t ?_ | with_reducible refine vIf_f ?_)); refine vCall_ex (hd2) (by simp (disch := omega) only [go_sem]) rfl ?_); rintro _ _ ⟨as_, x, rfl, rfl, o2, hx⟩; (refine ⟨(by first | exact Or.inl rfl | exact Or.inr ⟨rfl, rfl⟩ | (apply Or.inr; simp only [go_sem])), ?_⟩; (repeat (first | simp (maxSteps := 40000000) (disch := omega) only [go_sem, ↓reduceIte] | with_reducible refine vIf_t ?_ | with_reducible refine vIf_f ?_)))
  have hn2 := o2.n
  have p5 := OwG.fz (addG_ok as_ x o2.nz (by omega) (by omega))
  have p6 := OwG.fz (addGS_ok as_ x o2.nz (by omega) (by omega))
  have hal := adV_len as_ x
  generalize adV as_ x = A at *
  generalize adC as_ x = k3 at *
  unfold Gd.cells at p5 p6
  (refine vCallX_keep [11, 3, 7, 4, 6, 10, 9, 12, 5, 8, 0, 14, 13, 80, 81] rfl ?_; (repeat (first | simp (maxSteps := 40000000) (disch := omega) only [go_sem, ↓reduceIte] | with_reducible refine vIf_t ?_ | with_reducible refine vIf_f ?_)))
  (refine vCallX_of ?_; (repeat (first | simp (maxSteps := 40000000) (disch := omega) only [go_sem, ↓reduceIte] | with_reducible refine vIf_t ?_ | with_reducible refine vIf_f ?_)); refine vCall_eq (p5) (by simp (disch := omega) only [go_sem]) rfl (by first | exact Or.inl rfl | exact Or.inr ⟨rfl, rfl⟩ | (apply Or.inr; simp only [go_sem])) ?_; (repeat (first | simp (maxSteps := 40000000) (disch := omega) only [go_sem, ↓reduceIte] | with_reducible refine vIf_t ?_ | with_reducible refine vIf_f ?_)))
  (refine vCallX_keep [11, 3, 7, 4, 6, 10, 15, 16, 9, 12, 5, 8, 0, 14, 13, 86, 87] rfl ?_; (repeat (first | simp (maxSteps := 40000000) (disch := omega) only [go_sem, ↓reduceIte] | with_reducible refine vIf_t ?_ | with_reducible refine vIf_f ?_)))
  (refine vCallX_of ?_; (repeat (first | simp (maxSteps := 40000000) (disch := omega) only [go_sem, ↓reduceIte] | with_reducible refine vIf_t ?_ | with_reducible refine vIf_f ?_)); refine vCall_eq (p6) (by simp (disch := omega) only [go_sem]) rfl (by first | exact Or.inl rfl | exact Or.inr ⟨rfl, rfl⟩ | (apply Or.inr; simp only [go_sem])) ?_; (repeat (first | simp (maxSteps := 40000000) (disch := omega) only [go_sem, ↓reduceIte] | with_reducible refine vIf_t ?_ | with_reducible refine vIf_f ?_)))
  (refine vCallX_keep [11, 3, 7, 4, 6, 10, 17, 15, 18, 16, 9, 12, 5, 8, 0, 92] rfl ?_; (repeat (first | simp (maxSteps := 40000000) (disch := omega) only [go_sem, ↓reduceIte] | with_reducible refine vIf_t ?_ | with_reducible refine vIf_f ?_)))
  (refine vCallX_of ?_; (repeat (first | simp (maxSteps := 40000000) (disch := omega) only [go_sem, ↓reduceIte] | with_reducible refine vIf_t ?_ | with_reducible refine vIf_f ?_)); refine vCall_ex (hd3) (by simp (disch := omega) only [go_sem]) rfl ?_); rintro _ _ ⟨bs, metre, rfl, rfl, o3⟩; (refine ⟨(by first | exact Or.inl rfl | exact Or.inr ⟨rfl, rfl⟩ | (apply Or.inr; simp only [go_sem])), ?_⟩; (repeat (first | simp (maxSteps := 40000000) (disch := omega) only [go_sem, ↓reduceIte] | with_reducible refine vIf_t ?_ | with_reducible refine vIf_f ?_)))
  have hn3 := o3.n
  have p7 := RowR.fz (guardsAt_ok bs metre o3.nz (by omega))
  have p8 := RowR.fz (guardsAtS_ok bs metre o3.nz (by omega))
  have hgl := gaV_len bs metre
  generalize gaV bs metre = G at *
  generalize gaC bs metre = k4 at *
  (refine vCallX_keep [11, 3, 7, 4, 6, 10, 17, 15, 18, 16, 9, 12, 5, 8, 0, 20, 19, 97, 98] rfl ?_; (repeat (first | simp (maxSteps := 40000000) (disch := omega) only [go_sem, ↓reduceIte] | with_reducible refine vIf_t ?_ | with_reducible refine vIf_f ?_)))
  (refine vCallX_of ?_; (repeat (first | simp (maxSteps := 40000000) (disch := omega) only [go_sem, ↓reduceIte] | with_reducible refine vIf_t ?_ | with_reducible refine vIf_f ?_)); refine vCall_eq (p7) (by simp (disch := omega) only [go_sem]) rfl (by first | exact Or.inl rfl | exact Or.inr ⟨rfl, rfl⟩ | (apply Or.inr; simp only [go_sem])) ?_; (repeat (first | simp (maxSteps := 40000000) (disch := omega) only [go_sem, ↓reduceIte] | with_reducible refine vIf_t ?_ | with_reducible refine vIf_f ?_)))
  (refine vCallX_keep [11, 3, 7, 4, 6, 10, 21, 22, 17, 15, 18, 16, 9, 12, 5, 8, 0, 20, 19, 103, 104] rfl ?_; (repeat (first | simp (maxSteps := 40000000) (disch := omega) only [go_sem, ↓reduceIte] | with_reducible refine vIf_t ?_ | with_reducible refine vIf_f ?_)))
  (refine vCallX_of ?_; (repeat (first | simp (maxSteps := 40000000) (disch := omega) only [go_sem, ↓reduceIte] | with_reducible refine vIf_t ?_ | with_reducible refine vIf_f ?_)); refine vCall_eq (p8) (by simp (disch := omega) only [go_sem]) rfl (by first | exact Or.inl rfl | exact Or.inr ⟨rfl, rfl⟩ | (apply Or.inr; simp only [go_sem])) ?_; (repeat (first | simp (maxSteps := 40000000) (disch := omega) only [go_sem, ↓reduceIte] | with_reducible refine vIf_t ?_ | with_reducible refine vIf_f ?_)))
  (refine vCallX_keep [11, 3, 7, 4, 6, 10, 23, 21, 24, 22, 17, 15, 18, 16, 9, 12, 5, 8, 0, 108] rfl ?_; (repeat (first | simp (maxSteps := 40000000) (disch := omega) only [go_sem, ↓reduceIte] | with_reducible refine vIf_t ?_ | with_reducible refine vIf_f ?_)))
  (refine vCallX_of ?_; (repeat (first | simp (maxSteps := 40000000) (disch := omega) only [go_sem, ↓reduceIte] | with_reducible refine vIf_t ?_ | with_reducible refine vIf_f ?_)); refine vCall_ex (hd4) (by simp (disch := omega) only [go_sem]) rfl ?_); rintro _ _ ⟨t, rfl, rfl, ht⟩; (refine ⟨(by first | exact Or.inl rfl | exact Or.inr ⟨rfl, rfl⟩ | (apply Or.inr; simp only [go_sem])), ?_⟩; (repeat (first | simp (maxSteps := 40000000) (disch := omega) only [go_sem, ↓reduceIte] | with_reducible refine vIf_t ?_ | with_reducible refine vIf_f ?_)))
  obtain ⟨T, hT⟩ : ∃ T, T = if gdB t = true then gtT t else [] := ⟨_, rfl⟩
  have p9 := guardText_ok t (by omega)
  have p10 := guardTextS_ok t (by omega)
  unfold Gd.cells at p9 p10
  rw [← hT] at p9 p10
  have hTa : Asc T := by
    rw [hT]; split
    · rename_i h; exact gtT_asc t (gdB_asc h)
    · exact fun c hc => by simp at hc
  have hTl : T.length ≤ 10000 := by
    rw [hT]; split
    · rename_i h
      obtain ⟨n1, n2⟩ := gdB_nok h
      have := gtT_len t n1 n2 (by omega)
      omega
    · simp
  have p11 := readG_ok T hTa hTl
  rw [rgV_eq] at p11
  have hok : (!((tx T).toList == (tx []).toList)) = gwB T ∧ (gwB T = true → gwW T = t) := by
    rw [hT]
    cases hw : gdB t with
    | true => exact ⟨by rw [if_pos rfl, txg_ne, gwB, backG_t hw]; cases h : gtT t with | nil => exact absurd h (gtT_ne t) | cons a r => rfl, fun _ => by rw [if_pos rfl, gwW, backG_t hw]; rfl⟩
    | false => exact ⟨by rw [if_neg (by simp), txg_ne, gwB, backG_f]; rfl, fun h => by rw [if_neg (by simp), gwB, backG_f] at h; simp at h⟩
  obtain ⟨hk1, hk2⟩ := hok
  generalize gwB T = ok at *
  generalize gwW T = bk at *
  (refine vCallX_keep [11, 3, 7, 4, 6, 10, 25, 23, 21, 24, 22, 17, 15, 18, 16, 9, 12, 5, 8, 0, 110] rfl ?_; (repeat (first | simp (maxSteps := 40000000) (disch := omega) only [go_sem, ↓reduceIte] | with_reducible refine vIf_t ?_ | with_reducible refine vIf_f ?_)))
  (refine vCallX_of ?_; (repeat (first | simp (maxSteps := 40000000) (disch := omega) only [go_sem, ↓reduceIte] | with_reducible refine vIf_t ?_ | with_reducible refine vIf_f ?_)); refine vCall_eq (p9) (by simp (disch := omega) only [go_sem]) rfl (by first | exact Or.inl rfl | exact Or.inr ⟨rfl, rfl⟩ | (apply Or.inr; simp only [go_sem])) ?_; (repeat (first | simp (maxSteps := 40000000) (disch := omega) only [go_sem, ↓reduceIte] | with_reducible refine vIf_t ?_ | with_reducible refine vIf_f ?_)))
  (refine vCallX_keep [11, 3, 7, 4, 6, 10, 25, 26, 23, 21, 24, 22, 17, 15, 18, 16, 9, 12, 5, 8, 0, 113] rfl ?_; (repeat (first | simp (maxSteps := 40000000) (disch := omega) only [go_sem, ↓reduceIte] | with_reducible refine vIf_t ?_ | with_reducible refine vIf_f ?_)))
  (refine vCallX_of ?_; (repeat (first | simp (maxSteps := 40000000) (disch := omega) only [go_sem, ↓reduceIte] | with_reducible refine vIf_t ?_ | with_reducible refine vIf_f ?_)); refine vCall_eq (p11) (by simp (disch := omega) only [go_sem]) rfl (by first | exact Or.inl rfl | exact Or.inr ⟨rfl, rfl⟩ | (apply Or.inr; simp only [go_sem])) ?_; (repeat (first | simp (maxSteps := 40000000) (disch := omega) only [go_sem, ↓reduceIte] | with_reducible refine vIf_t ?_ | with_reducible refine vIf_f ?_)))
  (refine vCallX_keep [11, 3, 7, 4, 6, 10, 25, 27, 28, 26, 23, 21, 24, 22, 17, 15, 18, 16, 9, 12, 5, 8, 0, 117] rfl ?_; (repeat (first | simp (maxSteps := 40000000) (disch := omega) only [go_sem, ↓reduceIte] | with_reducible refine vIf_t ?_ | with_reducible refine vIf_f ?_)))
  (refine vCallX_of ?_; (repeat (first | simp (maxSteps := 40000000) (disch := omega) only [go_sem, ↓reduceIte] | with_reducible refine vIf_t ?_ | with_reducible refine vIf_f ?_)); refine vCall_ex (hd5) (by simp (disch := omega) only [go_sem]) rfl ?_); rintro _ _ ⟨l, rfl, rfl, hla, hll⟩; (refine ⟨(by first | exact Or.inl rfl | exact Or.inr ⟨rfl, rfl⟩ | (apply Or.inr; simp only [go_sem])), ?_⟩; (repeat (first | simp (maxSteps := 40000000) (disch := omega) only [go_sem, ↓reduceIte] | with_reducible refine vIf_t ?_ | with_reducible refine vIf_f ?_)))
  have p12 := readG_ok l hla (by omega)
  have p13 := readGS_ok l (by omega)
  rw [rgV_eq] at p12 p13
  generalize gwB l = ok2 at *
  generalize gwW l = bk2 at *
  (refine vCallX_keep [11, 3, 7, 4, 6, 10, 25, 27, 28, 26, 23, 21, 24, 22, 17, 15, 18, 16, 9, 12, 5, 8, 0, 29, 120] rfl ?_; (repeat (first | simp (maxSteps := 40000000) (disch := omega) only [go_sem, ↓reduceIte] | with_reducible refine vIf_t ?_ | with_reducible refine vIf_f ?_)))
  (refine vCallX_of ?_; (repeat (first | simp (maxSteps := 40000000) (disch := omega) only [go_sem, ↓reduceIte] | with_reducible refine vIf_t ?_ | with_reducible refine vIf_f ?_)); refine vCall_eq (p12) (by simp (disch := omega) only [go_sem]) rfl (by first | exact Or.inl rfl | exact Or.inr ⟨rfl, rfl⟩ | (apply Or.inr; simp only [go_sem])) ?_; (repeat (first | simp (maxSteps := 40000000) (disch := omega) only [go_sem, ↓reduceIte] | with_reducible refine vIf_t ?_ | with_reducible refine vIf_f ?_)))
  (refine vCallX_keep [11, 3, 7, 4, 6, 10, 30, 31, 25, 27, 28, 26, 23, 21, 24, 22, 17, 15, 18, 16, 9, 12, 5, 8, 0, 29, 125] rfl ?_; (repeat (first | simp (maxSteps := 40000000) (disch := omega) only [go_sem, ↓reduceIte] | with_reducible refine vIf_t ?_ | with_reducible refine vIf_f ?_)))
  (refine vCallX_of ?_; (repeat (first | simp (maxSteps := 40000000) (disch := omega) only [go_sem, ↓reduceIte] | with_reducible refine vIf_t ?_ | with_reducible refine vIf_f ?_)); refine vCall_eq (p13) (by simp (disch := omega) only [go_sem]) rfl (by first | exact Or.inl rfl | exact Or.inr ⟨rfl, rfl⟩ | (apply Or.inr; simp only [go_sem])) ?_; (repeat (first | simp (maxSteps := 40000000) (disch := omega) only [go_sem, ↓reduceIte] | with_reducible refine vIf_t ?_ | with_reducible refine vIf_f ?_)))
  (refine vCallX_keep [11, 3, 7, 4, 6, 10, 32, 30, 33, 31, 25, 27, 28, 26, 23, 21, 24, 22, 17, 15, 18, 16, 9, 12, 5, 8, 0, 130] rfl ?_; (repeat (first | simp (maxSteps := 40000000) (disch := omega) only [go_sem, ↓reduceIte] | with_reducible refine vIf_t ?_ | with_reducible refine vIf_f ?_)))
  (refine vCallX_of ?_; (repeat (first | simp (maxSteps := 40000000) (disch := omega) only [go_sem, ↓reduceIte] | with_reducible refine vIf_t ?_ | with_reducible refine vIf_f ?_)); refine vCall_ex (hd6) (by simp (disch := omega) only [go_sem]) rfl ?_); rintro _ _ ⟨xs, ys, rfl, rfl, n5, n6⟩; (refine ⟨(by first | exact Or.inl rfl | exact Or.inr ⟨rfl, rfl⟩ | (apply Or.inr; simp only [go_sem])), ?_⟩; (repeat (first | simp (maxSteps := 40000000) (disch := omega) only [go_sem, ↓reduceIte] | with_reducible refine vIf_t ?_ | with_reducible refine vIf_f ?_)))
  have p14 := sameGuards_ok xs ys (by omega) (by omega)
  have p15 := sameGuardsS_ok xs ys (by omega) (by omega)
  have p16 := validG_ok ds hz1 (by omega)
  have p17 := validGdS_ok ds hz1 (by omega)
  have q1 := f6same_ok M (by omega)
  have q2 := f6lists_ok U (by omega) (fun i hi => by
    obtain ⟨x, y, h⟩ := F1 i hi
    rw [h.e]; simp)
  have q3 := sameGuardsS_ok A A (by omega) (by omega)
  rw [decide_eq_true rfl] at q3
  have q4 := f6same_ok G (by omega)
  (refine vCallX_keep [11, 3, 7, 4, 6, 10, 35, 34, 32, 30, 33, 31, 25, 27, 28, 26, 23, 21, 24, 22, 17, 15, 18, 16, 9, 12, 5, 8, 137, 138, 139] rfl ?_; (repeat (first | simp (maxSteps := 40000000) (disch := omega) only [go_sem, ↓reduceIte] | with_reducible refine vIf_t ?_ | with_reducible refine vIf_f ?_)))
  (refine vCallX_of ?_; (repeat (first | simp (maxSteps := 40000000) (disch := omega) only [go_sem, ↓reduceIte] | with_reducible refine vIf_t ?_ | with_reducible refine vIf_f ?_)); refine vCall_eq (q1) (by simp (disch := omega) only [go_sem]) rfl (by first | exact Or.inl rfl | exact Or.inr ⟨rfl, rfl⟩ | (apply Or.inr; simp only [go_sem])) ?_; (repeat (first | simp (maxSteps := 40000000) (disch := omega) only [go_sem, ↓reduceIte] | with_reducible refine vIf_t ?_ | with_reducible refine vIf_f ?_)))
  (refine vCallX_keep [11, 3, 7, 4, 6, 10, 35, 34, 32, 30, 33, 31, 25, 27, 28, 26, 23, 21, 24, 22, 17, 15, 18, 16, 9, 12, 5, 8, 148, 149, 150] rfl ?_; (repeat (first | simp (maxSteps := 40000000) (disch := omega) only [go_sem, ↓reduceIte] | with_reducible refine vIf_t ?_ | with_reducible refine vIf_f ?_)))
  (refine vCallX_of ?_; (repeat (first | simp (maxSteps := 40000000) (disch := omega) only [go_sem, ↓reduceIte] | with_reducible refine vIf_t ?_ | with_reducible refine vIf_f ?_)); refine vCall_eq (q2) (by simp (disch := omega) only [go_sem]) rfl (by first | exact Or.inl rfl | exact Or.inr ⟨rfl, rfl⟩ | (apply Or.inr; simp only [go_sem])) ?_; (repeat (first | simp (maxSteps := 40000000) (disch := omega) only [go_sem, ↓reduceIte] | with_reducible refine vIf_t ?_ | with_reducible refine vIf_f ?_)))
  (refine vCallX_keep [11, 3, 7, 4, 6, 10, 35, 34, 32, 30, 33, 31, 25, 27, 28, 26, 23, 21, 24, 22, 17, 15, 18, 16, 9, 12, 5, 8, 159, 160, 161] rfl ?_; (repeat (first | simp (maxSteps := 40000000) (disch := omega) only [go_sem, ↓reduceIte] | with_reducible refine vIf_t ?_ | with_reducible refine vIf_f ?_)))
  (refine vCallX_of ?_; (repeat (first | simp (maxSteps := 40000000) (disch := omega) only [go_sem, ↓reduceIte] | with_reducible refine vIf_t ?_ | with_reducible refine vIf_f ?_)); refine vCall_eq (q3) (by simp (disch := omega) only [go_sem]) rfl (by first | exact Or.inl rfl | exact Or.inr ⟨rfl, rfl⟩ | (apply Or.inr; simp only [go_sem])) ?_; (repeat (first | simp (maxSteps := 40000000) (disch := omega) only [go_sem, ↓reduceIte] | with_reducible refine vIf_t ?_ | with_reducible refine vIf_f ?_)))
  (refine vCallX_keep [11, 3, 7, 4, 6, 10, 35, 34, 32, 30, 33, 31, 25, 27, 28, 26, 23, 21, 24, 22, 17, 15, 18, 16, 9, 12, 5, 8, 170, 171, 172] rfl ?_; (repeat (first | simp (maxSteps := 40000000) (disch := omega) only [go_sem, ↓reduceIte] | with_reducible refine vIf_t ?_ | with_reducible refine vIf_f ?_)))
  (refine vCallX_of ?_; (repeat (first | simp (maxSteps := 40000000) (disch := omega) only [go_sem, ↓reduceIte] | with_reducible refine vIf_t ?_ | with_reducible refine vIf_f ?_)); refine vCall_eq (q4) (by simp (disch := omega) only [go_sem]) rfl (by first | exact Or.inl rfl | exact Or.inr ⟨rfl, rfl⟩ | (apply Or.inr; simp only [go_sem])) ?_; (repeat (first | simp (maxSteps := 40000000) (disch := omega) only [go_sem, ↓reduceIte] | with_reducible refine vIf_t ?_ | with_reducible refine vIf_f ?_)))
  (refine vCallX_keep [11, 3, 7, 4, 6, 10, 35, 34, 32, 30, 33, 31, 25, 27, 28, 26, 23, 21, 24, 22, 17, 15, 18, 16, 9, 12, 5, 8, 176, 177, 178] rfl ?_; (repeat (first | simp (maxSteps := 40000000) (disch := omega) only [go_sem, ↓reduceIte] | with_reducible refine vIf_t ?_ | with_reducible refine vIf_f ?_)))
  (refine vCallX_of ?_; (repeat (first | simp (maxSteps := 40000000) (disch := omega) only [go_sem, ↓reduceIte] | with_reducible refine vIf_t ?_ | with_reducible refine vIf_f ?_)); refine vCall_eq (p10) (by simp (disch := omega) only [go_sem]) rfl (by first | exact Or.inl rfl | exact Or.inr ⟨rfl, rfl⟩ | (apply Or.inr; simp only [go_sem])) ?_; (repeat (first | simp (maxSteps := 40000000) (disch := omega) only [go_sem, ↓reduceIte] | with_reducible refine vIf_t ?_ | with_reducible refine vIf_f ?_)))
  (try (repeat (first | simp (maxSteps := 40000000) (disch := omega) only [go_sem, ↓reduceIte, hk1] | with_reducible refine vIf_t ?_ | with_reducible refine vIf_f ?_)))
  apply joinGd
  · intro common
    cases ok with
    | true =>
      have hcmp : (bk.name.toList == t.name.toList && (bk.fr == t.fr && bk.tw == t.tw)) = true := by rw [hk2 rfl]; simp
      (repeat (first | simp (maxSteps := 40000000) (disch := omega) only [go_sem, ↓reduceIte, hcmp] | with_reducible refine vIf_t ?_ | with_reducible refine vIf_f ?_))
      (refine vCallX_keep [11, 3, 7, 4, 6, 10, 34, 35, 206, 207, 208] rfl ?_; (repeat (first | simp (maxSteps := 40000000) (disch := omega) only [go_sem, ↓reduceIte] | with_reducible refine vIf_t ?_ | with_reducible refine vIf_f ?_)))
      exact common.out
    | false =>
      (repeat (first | simp (maxSteps := 40000000) (disch := omega) only [go_sem, ↓reduceIte] | with_reducible refine vIf_t ?_ | with_reducible refine vIf_f ?_))
      (refine vCallX_keep [11, 3, 7, 4, 6, 10, 34, 35, 206, 207, 208] rfl ?_; (repeat (first | simp (maxSteps := 40000000) (disch := omega) only [go_sem, ↓reduceIte] | with_reducible refine vIf_t ?_ | with_reducible refine vIf_f ?_)))
      exact common.out
  (refine vCallX_of ?_; (repeat (first | simp (maxSteps := 40000000) (disch := omega) only [go_sem, ↓reduceIte] | with_reducible refine vIf_t ?_ | with_reducible refine vIf_f ?_)); refine vCall_eq (p14) (by simp (disch := omega) only [go_sem]) rfl (by first | exact Or.inl rfl | exact Or.inr ⟨rfl, rfl⟩ | (apply Or.inr; simp only [go_sem])) ?_; (repeat (first | simp (maxSteps := 40000000) (disch := omega) only [go_sem, ↓reduceIte] | with_reducible refine vIf_t ?_ | with_reducible refine vIf_f ?_)))
  (refine vCallX_of ?_; (repeat (first | simp (maxSteps := 40000000) (disch := omega) only [go_sem, ↓reduceIte] | with_reducible refine vIf_t ?_ | with_reducible refine vIf_f ?_)); refine vCall_eq (p15) (by simp (disch := omega) only [go_sem]) rfl (by first | exact Or.inl rfl | exact Or.inr ⟨rfl, rfl⟩ | (apply Or.inr; simp only [go_sem])) ?_; (repeat (first | simp (maxSteps := 40000000) (disch := omega) only [go_sem, ↓reduceIte] | with_reducible refine vIf_t ?_ | with_reducible refine vIf_f ?_)))
  (refine vCallX_of ?_; (repeat (first | simp (maxSteps := 40000000) (disch := omega) only [go_sem, ↓reduceIte] | with_reducible refine vIf_t ?_ | with_reducible refine vIf_f ?_)); refine vCall_eq (p16) (by simp (disch := omega) only [go_sem]) rfl (by first | exact Or.inl rfl | exact Or.inr ⟨rfl, rfl⟩ | (apply Or.inr; simp only [go_sem])) ?_; (repeat (first | simp (maxSteps := 40000000) (disch := omega) only [go_sem, ↓reduceIte] | with_reducible refine vIf_t ?_ | with_reducible refine vIf_f ?_)))
  (refine vCallX_of ?_; (repeat (first | simp (maxSteps := 40000000) (disch := omega) only [go_sem, ↓reduceIte] | with_reducible refine vIf_t ?_ | with_reducible refine vIf_f ?_)); refine vCall_eq (p17) (by simp (disch := omega) only [go_sem]) rfl (by first | exact Or.inl rfl | exact Or.inr ⟨rfl, rfl⟩ | (apply Or.inr; simp only [go_sem])) ?_; (repeat (first | simp (maxSteps := 40000000) (disch := omega) only [go_sem, ↓reduceIte] | with_reducible refine vIf_t ?_ | with_reducible refine vIf_f ?_)))
  clear p1 p2 p3 p4 p5 p6 p7 p8 p9 p10 p11 p12 p13 p14 p15 p16 p17 q1 q2 q3 q4 hd1 hd2 hd3 hd4 hd5 hd6
  refine vcLoop_invF (fun k : Nat => k ≤ U.length) (fun k => ⟨344, 0, [(36, I k), (11, .sl U.length (rws U)), (3, .sl ds.length (cGd ds)), (7, .sl M.length (ints M)), (4, I L), (6, I k1), (10, I k2)], []⟩) (fun k => U.length - k) 0 (by omega) (by (first | (refine leF_s ?_; ((repeat (first | simp (maxSteps := 40000000) (disch := omega) only [go_sem, ↓reduceIte] | with_reducible refine vIf_t ?_ | with_reducible refine vIf_f ?_)); all_goals (try simp); all_goals (try omega)); done) | (refine leF_p ?_; ((repeat (first | simp (maxSteps := 40000000) (disch := omega) only [go_sem, ↓reduceIte] | with_reducible refine vIf_t ?_ | with_reducible refine vIf_f ?_)); all_goals (try simp); all_goals (try omega)); done))) ?_
  intro k hk
  (repeat (first | simp (maxSteps := 40000000) (disch := omega) only [go_sem, ↓reduceIte] | with_reducible refine vIf_t ?_ | with_reducible refine vIf_f ?_))
  refine vIf_dec (fun h => ?_) (fun h => ?_)
  · have hkl : k < U.length := by omega
    obtain ⟨x, y, fe, flt, ⟨fb1, fb2⟩, fc1, fv1, fc2, fv2⟩ := F1 k hkl
    have r1 := RowR.fz (guardsAt_ok ds x hz1 (by omega))
    have r2 := RowR.fz (guardsAt_ok ds (y - 1) hz1 (by omega))
    rw [fc1, fv1] at r1
    rw [fc2, fv2] at r2
    have fl : (gr U k).length = 2 := by rw [fe]; rfl
    have g0 : gi [x, y] 0 = x := rfl
    have g1 : gi [x, y] 1 = y := rfl
    have ny : decide (y ≤ x) = false := decide_eq_false (by omega)
    (repeat (first | simp (maxSteps := 40000000) (disch := omega) only [go_sem, ↓reduceIte] | with_reducible refine vIf_t ?_ | with_reducible refine vIf_f ?_))
    (refine vDraw_sch 19 [(0, false), (1, false), (2, false), (3, true), (4, false), (5, false), (6, false), (7, false), (8, false), (9, false), (10, false), (11, false), (12, false), (13, false), (14, false), (15, false), (16, false), (17, false), (18, false)] mixed (by kernel_rfl) ?_; simp only [List.cons_append, List.nil_append, List.map_cons, List.map_nil, nthO_zero, nthO_succ, List.drop_succ_cons, List.drop_zero, List.drop_nil]; (repeat (first | simp (maxSteps := 40000000) (disch := omega) only [go_sem, ↓reduceIte] | with_reducible refine vIf_t ?_ | with_reducible refine vIf_f ?_)))
    (try (repeat (first | simp (maxSteps := 40000000) (disch := omega) only [go_sem, ↓reduceIte, fe, g0, g1, ny] | with_reducible refine vIf_t ?_ | with_reducible refine vIf_f ?_)))
    (refine vCallX_of ?_; (repeat (first | simp (maxSteps := 40000000) (disch := omega) only [go_sem, ↓reduceIte] | with_reducible refine vIf_t ?_ | with_reducible refine vIf_f ?_)); refine vCall_eq (r1) (by simp (disch := omega) only [go_sem]) rfl (by first | exact Or.inl rfl | exact Or.inr ⟨rfl, rfl⟩ | (apply Or.inr; simp only [go_sem])) ?_; (repeat (first | simp (maxSteps := 40000000) (disch := omega) only [go_sem, ↓reduceIte] | with_reducible refine vIf_t ?_ | with_reducible refine vIf_f ?_)))
    (repeat (first | simp (maxSteps := 40000000) (disch := omega) only [go_sem, ↓reduceIte, fe, g1] | with_reducible refine vIf_t ?_ | with_reducible refine vIf_f ?_))
    (refine vCallX_of ?_; (repeat (first | simp (maxSteps := 40000000) (disch := omega) only [go_sem, ↓reduceIte] | with_reducible refine vIf_t ?_ | with_reducible refine vIf_f ?_)); refine vCall_eq (r2) (by simp (disch := omega) only [go_sem]) rfl (by first | exact Or.inl rfl | exact Or.inr ⟨rfl, rfl⟩ | (apply Or.inr; simp only [go_sem])) ?_; (repeat (first | simp (maxSteps := 40000000) (disch := omega) only [go_sem, ↓reduceIte] | with_reducible refine vIf_t ?_ | with_reducible refine vIf_f ?_)))
    (try (repeat (first | simp (maxSteps := 40000000) (disch := omega) only [go_sem, ↓reduceIte] | with_reducible refine vIf_t ?_ | with_reducible refine vIf_f ?_)))
    refine againF (k + 1) (by omega) (by omega) (by (first | (refine leF_s ?_; ((repeat (first | simp (maxSteps := 40000000) (disch := omega) only [go_sem, ↓reduceIte] | with_reducible refine vIf_t ?_ | with_reducible refine vIf_f ?_)); all_goals (try simp); all_goals (try omega)); done) | (refine leF_p ?_; ((repeat (first | simp (maxSteps := 40000000) (disch := omega) only [go_sem, ↓reduceIte] | with_reducible refine vIf_t ?_ | with_reducible refine vIf_f ?_)); all_goals (try simp); all_goals (try omega)); done)))
  clear hk h
  (repeat (first | simp (maxSteps := 40000000) (disch := omega) only [go_sem, ↓reduceIte] | with_reducible refine vIf_t ?_ | with_reducible refine vIf_f ?_))
  by_cases h1 : k1 = 0
  case neg =>
    have b1 : (k1 == 0) = false := by simpa using h1
    by_cases h2 : k2 = 0
    · have b2 : (k2 == 0) = true := by simpa using h2
      have b3 : ((U.length : Int) == 0) = false := by
        rw [beq_eq_false_iff_ne]
        intro e
        exact h1 ((F3 h2).1 (by omega))
      (repeat (first | simp (maxSteps := 40000000) (disch := omega) only [go_sem, ↓reduceIte, b1, b2, b3] | with_reducible refine vIf_t ?_ | with_reducible refine vIf_f ?_))
      (try (repeat (first | simp (maxSteps := 40000000) (disch := omega) only [go_sem, ↓reduceIte, b1, b2, b3] | with_reducible refine vIf_t ?_ | with_reducible refine vIf_f ?_)))
      (refine retK_of ?_; (repeat (first | simp (maxSteps := 40000000) (disch := omega) only [go_sem, ↓reduceIte] | with_reducible refine vIf_t ?_ | with_reducible refine vIf_f ?_)))
    · have b2 : (k2 == 0) = false := by simpa using h2
      (repeat (first | simp (maxSteps := 40000000) (disch := omega) only [go_sem, ↓reduceIte, b1, b2] | with_reducible refine vIf_t ?_ | with_reducible refine vIf_f ?_))
      (try (repeat (first | simp (maxSteps := 40000000) (disch := omega) only [go_sem, ↓reduceIte, b1, b2] | with_reducible refine vIf_t ?_ | with_reducible refine vIf_f ?_)))
      (refine retK_of ?_; (repeat (first | simp (maxSteps := 40000000) (disch := omega) only [go_sem, ↓reduceIte] | with_reducible refine vIf_t ?_ | with_reducible refine vIf_f ?_)))
  have h2 := F4 h1
  have h3 := (F3 h2).2 h1
  obtain ⟨f1, f2, f3, f4, f5⟩ := F2 h1
  subst h1 h2
  have b3 : ((U.length : Int) == 0) = true := by rw [beq_iff_eq]; omega
  (try (repeat (first | simp (maxSteps := 40000000) (disch := omega) only [go_sem, ↓reduceIte, b3] | with_reducible refine vIf_t ?_ | with_reducible refine vIf_f ?_)))
  clear F1 F2 F3 F4 b3 h3
  have s0 : stA ds M 0 = 0 := rfl
  refine vcLoop_invF (fun k : Nat => k ≤ M.length) (fun k => ⟨344, 0, [(42, I k), (7, .sl M.length (ints M)), (3, .sl ds.length (cGd ds)), (41, I (stA ds M k)), (4, I L)], []⟩) (fun k => M.length - k) 0 (by omega) (by rw [s0]; (first | (refine leF_s ?_; ((repeat (first | simp (maxSteps := 40000000) (disch := omega) only [go_sem, ↓reduceIte] | with_reducible refine vIf_t ?_ | with_reducible refine vIf_f ?_)); all_goals (try simp); all_goals (try omega)); done) | (refine leF_p ?_; ((repeat (first | simp (maxSteps := 40000000) (disch := omega) only [go_sem, ↓reduceIte] | with_reducible refine vIf_t ?_ | with_reducible refine vIf_f ?_)); all_goals (try simp); all_goals (try omega)); done))) ?_
  intro k hk
  (repeat (first | simp (maxSteps := 40000000) (disch := omega) only [go_sem, ↓reduceIte] | with_reducible refine vIf_t ?_ | with_reducible refine vIf_f ?_))
  refine vIf_dec (fun h => ?_) (fun h => ?_)
  · have hkl : k < M.length := by omega
    obtain ⟨⟨e1, e2⟩, e3, e4⟩ := f2 k hkl
    have e5 := f5 k hkl
    have b1 : decide (stA ds M k < (gGd ds (gi M k).toNat).fr) = false := decide_eq_false (by omega)
    have b2 : decide ((gGd ds (gi M k).toNat).tw ≤ stA ds M k) = false := decide_eq_false (by omega)
    (repeat (first | simp (maxSteps := 40000000) (disch := omega) only [go_sem, ↓reduceIte, b1, b2] | with_reducible refine vIf_t ?_ | with_reducible refine vIf_f ?_))
    (try (repeat (first | simp (maxSteps := 40000000) (disch := omega) only [go_sem, ↓reduceIte, b1, b2] | with_reducible refine vIf_t ?_ | with_reducible refine vIf_f ?_)))
    rw [← e5]
    refine againF (k + 1) (by omega) (by omega) (by (first | (refine leF_s ?_; ((repeat (first | simp (maxSteps := 40000000) (disch := omega) only [go_sem, ↓reduceIte] | with_reducible refine vIf_t ?_ | with_reducible refine vIf_f ?_)); all_goals (try simp); all_goals (try omega)); done) | (refine leF_p ?_; ((repeat (first | simp (maxSteps := 40000000) (disch := omega) only [go_sem, ↓reduceIte] | with_reducible refine vIf_t ?_ | with_reducible refine vIf_f ?_)); all_goals (try simp); all_goals (try omega)); done)))
  · have ek : k = M.length := by omega
    rw [ek]
    have b1 : decide (L ≤ stA ds M M.length) = true := decide_eq_true f3
    have b2 : decide (0 < (M.length : Int)) = true := decide_eq_true (by omega)
    (repeat (first | simp (maxSteps := 40000000) (disch := omega) only [go_sem, ↓reduceIte, b1, b2] | with_reducible refine vIf_t ?_ | with_reducible refine vIf_f ?_))
    (try (repeat (first | simp (maxSteps := 40000000) (disch := omega) only [go_sem, ↓reduceIte, b1, b2] | with_reducible refine vIf_t ?_ | with_reducible refine vIf_f ?_)))
    (refine retK_of ?_; (repeat (first | simp (maxSteps := 40000000) (disch := omega) only [go_sem, ↓reduceIte] | with_reducible refine vIf_t ?_ | with_reducible refine vIf_f ?_)))
end Go.Proofs.YtfhckmlmfigfjaaGreatDoor

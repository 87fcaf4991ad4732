/- guards: who knows a metre, who goes on farthest, chains, unknown parts: plain law; guards: who knows a metre, codes: walks; guards: the one who goes on farthest; the fewest: walks; guards: the fewest, the program's way: walks -/
import Derived.Test.YtfhckmlmfigfjaaGreatDoorWatP
import Derived.Test.YtfhckmlmfigfjaaGreatDoorWch2
import Derived.Test.YtfhckmlmfigfjaaGreatDoorRowR
set_option linter.unusedVariables false
set_option linter.unusedSimpArgs false
namespace Go.Proofs.YtfhckmlmfigfjaaGreatDoor
open Go.AG

def knB (ds : List Gd) (m : Int) (i : Nat) : Bool := decide ((gGd ds i).fr ≤ m ∧ m ≤ (gGd ds i).tw - 1)
def twA (ds : List Gd) (b : Int) : Int := (gGd ds b.toNat).tw
def rcS (ds : List Gd) (b : Int) (k : Nat) : Int := if b < 0 ∨ twA ds b < (gGd ds k).tw then (k : Int) else b
def rcK (ds : List Gd) (m : Int) : Nat → Int
  | 0 => -1
  | k + 1 => if knB ds m k = true then rcS ds (rcK ds m k) k else rcK ds m k
theorem rcS_lo (ds : List Gd) (b : Int) (k : Nat) (h : -1 ≤ b) : -1 ≤ rcS ds b k := by
  unfold rcS; split <;> omega
theorem rcK_lo (ds : List Gd) (m : Int) (k : Nat) : -1 ≤ rcK ds m k := by
  induction k with
  | zero => exact Int.le_refl _
  | succ k ih => rw [rcK]; split
                 · exact rcS_lo ds _ k ih
                 · exact ih
theorem rcK_kn (ds : List Gd) (m : Int) (k : Nat) (h : 0 ≤ rcK ds m k) : (rcK ds m k).toNat < k ∧ knB ds m (rcK ds m k).toNat = true := by
  induction k with
  | zero => rw [rcK] at h; omega
  | succ k ih =>
    rw [rcK] at h ⊢
    split at h
    · rename_i hk
      rw [if_pos hk]
      unfold rcS at h ⊢
      split at h
      · rename_i h2
        rw [if_pos h2, Int.toNat_natCast]
        exact ⟨by omega, hk⟩
      · rename_i h2
        rw [if_neg h2]
        have := ih h
        exact ⟨by omega, this.2⟩
    · rename_i hk
      rw [if_neg hk]
      have := ih h
      exact ⟨by omega, this.2⟩
theorem rcK_neg (ds : List Gd) (m : Int) (k : Nat) (h : rcK ds m k < 0) : ∀ i, i < k → knB ds m i = false := by
  induction k with
  | zero => intro i hi; omega
  | succ k ih =>
    rw [rcK] at h
    split at h
    · rename_i hk
      unfold rcS at h
      split at h
      · omega
      · rename_i h2; omega
    · rename_i hk
      intro i hi
      by_cases e : i < k
      · exact ih h i e
      · have : i = k := by omega
        rw [this]; simpa using hk
theorem rcK_ge {ds : List Gd} {m : Int} {k i : Nat} (hi : i < k) (h : knB ds m i = true) : 0 ≤ rcK ds m k := by
  by_cases e : rcK ds m k < 0
  · rw [rcK_neg ds m k e i hi] at h; cases h
  · omega
/-- the program's way: over the places of those who know -/
def flA (ds : List Gd) (l : List Int) (j : Nat) : Int := (l.take j).foldl (fun b i => rcS ds b i.toNat) (-1)
theorem flA_zero (ds : List Gd) (l : List Int) : flA ds l 0 = -1 := rfl
theorem flA_succ (ds : List Gd) (l : List Int) (j : Nat) (hj : j < l.length) : flA ds l (j + 1) = rcS ds (flA ds l j) (l.getD j 0).toNat := by
  unfold flA
  rw [List.take_add_one, List.getElem?_eq_getElem hj, Option.toList_some, List.foldl_append]
  simp [List.getD, List.getElem?_eq_getElem hj]
theorem flA_all (ds : List Gd) (m : Int) (n : Nat) : flA ds (ixs n (knB ds m)) (ixs n (knB ds m)).length = rcK ds m n := by
  unfold flA
  rw [List.take_length]
  induction n with
  | zero => rfl
  | succ k ih =>
    cases h : knB ds m k with
    | true => rw [ixs_yes h, List.foldl_append, ih, rcK, if_pos h]; simp
    | false => rw [ixs_no h, ih, rcK, if_neg (by rw [h]; decide)]
theorem kn_iff (ds : List Gd) (m : Int) (i : Nat) : knB ds m i = true ↔ (gGd ds i).fr ≤ m ∧ m ≤ (gGd ds i).tw - 1 := by
  unfold knB; rw [decide_eq_true_eq]

/-! chains -/
def rcN (ds : List Gd) (m : Int) : Int := rcK ds m ds.length
theorem rcN_tw {ds : List Gd} {m : Int} (h : 0 ≤ rcN ds m) : (gGd ds (rcN ds m).toNat).fr ≤ m ∧ m < twA ds (rcN ds m) ∧ (rcN ds m).toNat < ds.length := by
  have := rcK_kn ds m ds.length h
  have h2 := (kn_iff ds m _).1 this.2
  unfold twA rcN
  exact ⟨h2.1, by omega, this.1⟩
def fwR (ds : List Gd) (L : Int) (a : List Int) (m : Int) : List Int × Int :=
  if h : m < L ∧ 0 ≤ rcN ds m then fwR ds L (a ++ [rcN ds m]) (twA ds (rcN ds m)) else if m < L then ([], 3) else (a, 0)
termination_by (L - m).toNat
decreasing_by
  have := (rcN_tw h.2).2.1
  have := h.1
  omega
theorem fwR_go {ds : List Gd} {L : Int} {a : List Int} {m : Int} (h : m < L) (h2 : 0 ≤ rcN ds m) : fwR ds L a m = fwR ds L (a ++ [rcN ds m]) (twA ds (rcN ds m)) := by
  rw [fwR, dif_pos ⟨h, h2⟩]
theorem fwR_no {ds : List Gd} {L : Int} {a : List Int} {m : Int} (h : m < L) (h2 : rcN ds m < 0) : fwR ds L a m = ([], 3) := by
  rw [fwR, dif_neg (fun hh => absurd hh.2 (by omega)), if_pos h]
theorem fwR_end {ds : List Gd} {L : Int} {a : List Int} {m : Int} (h : ¬ m < L) : fwR ds L a m = (a, 0) := by
  rw [fwR, dif_neg (fun hh => h hh.1), if_neg h]
def chn (ds : List Gd) (L : Int) : Int → List Int → Prop
  | m, [] => L ≤ m
  | m, k :: t => m < L ∧ 0 ≤ k ∧ k.toNat < ds.length ∧ (gGd ds k.toNat).fr ≤ m ∧ m < twA ds k ∧ chn ds L (twA ds k) t
theorem fwR_chn (ds : List Gd) (L : Int) (f : Nat) : ∀ (a : List Int) (m : Int), (L - m).toNat ≤ f → (fwR ds L a m).2 = 0 → ∃ t, (fwR ds L a m).1 = a ++ t ∧ chn ds L m t := by
  induction f with
  | zero =>
    intro a m hf h
    rw [fwR_end (by omega)]
    exact ⟨[], by simp, by unfold chn; omega⟩
  | succ f ih =>
    intro a m hf h
    by_cases c : m < L
    · by_cases d : 0 ≤ rcN ds m
      · have w := rcN_tw d
        rw [fwR_go c d] at h ⊢
        obtain ⟨t, e, hc⟩ := ih _ _ (by omega) h
        exact ⟨rcN ds m :: t, by rw [e]; simp, ⟨c, d, w.2.2, w.1, w.2.1, hc⟩⟩
      · rw [fwR_no c (by omega)] at h
        simp at h
    · rw [fwR_end c]
      exact ⟨[], by simp, by unfold chn; omega⟩
def covT (ds : List Gd) (a b : Int) : Prop := ∀ x, a ≤ x → x < b → 0 ≤ rcN ds x
theorem rcN_to {ds : List Gd} {m : Int} {i : Nat} (hi : i < ds.length) (h : knB ds m i = true) : covT ds m (gGd ds i).tw := by
  intro x h1 h2
  have := (kn_iff ds m i).1 h
  exact rcK_ge hi ((kn_iff ds x i).2 ⟨by omega, by omega⟩)
theorem fwR_0 (ds : List Gd) (L : Int) (f : Nat) : ∀ (a : List Int) (m : Int), (L - m).toNat ≤ f → ((fwR ds L a m).2 = 0 ↔ covT ds m L) := by
  induction f with
  | zero =>
    intro a m hf
    rw [fwR_end (by omega)]
    exact ⟨fun _ x h1 h2 => by omega, fun _ => rfl⟩
  | succ f ih =>
    intro a m hf
    by_cases c : m < L
    · by_cases d : 0 ≤ rcN ds m
      · have w := rcN_tw d
        rw [fwR_go c d, ih _ _ (by omega)]
        have hk := (rcK_kn ds m ds.length d).2
        have ct := rcN_to w.2.2 hk
        refine ⟨fun h x h1 h2 => ?_, fun h x h1 h2 => h x (by omega) h2⟩
        by_cases e : x < twA ds (rcN ds m)
        · exact ct x h1 e
        · exact h x (by omega) h2
      · rw [fwR_no c (by omega)]
        refine ⟨fun h => by simp at h, fun h => absurd (h m (by omega) c) d⟩
    · rw [fwR_end c]
      exact ⟨fun _ x h1 h2 => by omega, fun _ => rfl⟩

/-! unknown parts -/
def nxK (ds : List Gd) (L m : Int) : Nat → Int
  | 0 => L
  | k + 1 => if m < (gGd ds k).fr then min (nxK ds L m k) (gGd ds k).fr else nxK ds L m k
theorem nxK_lo (ds : List Gd) (L m : Int) (h : m < L) (k : Nat) : m < nxK ds L m k ∧ nxK ds L m k ≤ L := by
  induction k with
  | zero => exact ⟨h, Int.le_refl _⟩
  | succ k ih => rw [nxK]; split <;> omega
theorem nxK_fr (ds : List Gd) (L m : Int) (k : Nat) : ∀ i, i < k → m < (gGd ds i).fr → nxK ds L m k ≤ (gGd ds i).fr := by
  induction k with
  | zero => intro i hi; omega
  | succ k ih =>
    intro i hi h
    rw [nxK]
    by_cases e : i < k
    · have := ih i e h
      split <;> omega
    · have : i = k := by omega
      subst this
      rw [if_pos h]; omega
def nxN (ds : List Gd) (L m : Int) : Int := nxK ds L m ds.length
theorem nxN_un {ds : List Gd} {L m : Int} (h : rcN ds m < 0) {x : Int} (h1 : m ≤ x) (h2 : x < nxN ds L m) : ∀ i, i < ds.length → knB ds x i = false := by
  intro i hi
  cases hk : knB ds x i with
  | false => rfl
  | true =>
    have w := (kn_iff ds x i).1 hk
    have u := rcK_neg ds m ds.length h i hi
    have : knB ds m i = true := by
      refine (kn_iff ds m i).2 ⟨?_, by omega⟩
      by_cases e : m < (gGd ds i).fr
      · have := nxK_fr ds L m ds.length i hi e
        unfold nxN at h2
        omega
      · omega
    rw [this] at u; cases u
def upR (ds : List Gd) (L : Int) (a : List (List Int)) (m : Int) : List (List Int) :=
  if h : m < L then if 0 ≤ rcN ds m then upR ds L a (m + 1) else upR ds L (a ++ [[m, nxN ds L m]]) (nxN ds L m) else a
termination_by (L - m).toNat
decreasing_by
  · omega
  · have := (nxK_lo ds L m h ds.length).1
    unfold nxN
    omega
theorem upR_end {ds : List Gd} {L : Int} {a : List (List Int)} {m : Int} (h : ¬ m < L) : upR ds L a m = a := by rw [upR, dif_neg h]
theorem upR_cov {ds : List Gd} {L : Int} {a : List (List Int)} {m : Int} (h : m < L) (h2 : 0 ≤ rcN ds m) : upR ds L a m = upR ds L a (m + 1) := by
  rw [upR, dif_pos h, if_pos h2]
theorem upR_part {ds : List Gd} {L : Int} {a : List (List Int)} {m : Int} (h : m < L) (h2 : ¬ 0 ≤ rcN ds m) : upR ds L a m = upR ds L (a ++ [[m, nxN ds L m]]) (nxN ds L m) := by
  rw [upR, dif_pos h, if_neg h2]
theorem upR_jump {ds : List Gd} {L : Int} {a : List (List Int)} (f : Nat) : ∀ (m e : Int), m ≤ e → (e - m).toNat ≤ f → covT ds m e → upR ds L a m = upR ds L a e := by
  induction f with
  | zero => intro m e h1 h2 _; rw [show m = e by omega]
  | succ f ih =>
    intro m e h1 h2 hc
    by_cases c : m < L
    · by_cases d : m < e
      · rw [upR_cov c (hc m (by omega) d)]
        exact ih (m + 1) e (by omega) (by omega) (fun x u v => hc x (by omega) v)
      · rw [show m = e by omega]
    · rw [upR_end c, upR_end (by omega)]
theorem upR_jmp {ds : List Gd} {L : Int} {a : List (List Int)} {m e : Int} (h : m ≤ e) (hc : covT ds m e) : upR ds L a m = upR ds L a e := upR_jump _ m e h (Nat.le_refl _) hc
def noK (ds : List Gd) (x : Int) : Prop := ∀ i, i < ds.length → knB ds x i = false
def prt (ds : List Gd) (L : Int) (p : List Int) : Prop := ∃ x y, p = [x, y] ∧ 0 ≤ x ∧ x < y ∧ y ≤ L ∧ noK ds x ∧ noK ds (y - 1)
theorem upR_prt (ds : List Gd) (L : Int) (f : Nat) : ∀ (a : List (List Int)) (m : Int), 0 ≤ m → (L - m).toNat ≤ f → (∀ p ∈ a, prt ds L p) → ∀ p ∈ upR ds L a m, prt ds L p := by
  induction f with
  | zero => intro a m h0 hf ha; rw [upR_end (by omega)]; exact ha
  | succ f ih =>
    intro a m h0 hf ha
    by_cases c : m < L
    · by_cases d : 0 ≤ rcN ds m
      · rw [upR_cov c d]
        exact ih a (m + 1) (by omega) (by omega) ha
      · rw [upR_part c d]
        have w := nxK_lo ds L m c ds.length
        have w1 : m < nxN ds L m := w.1
        have w2 : nxN ds L m ≤ L := w.2
        refine ih _ _ (by omega) (by omega) fun p hp => ?_
        rw [List.mem_append, List.mem_singleton] at hp
        rcases hp with hp | hp
        · exact ha p hp
        · exact ⟨m, nxN ds L m, hp, h0, w1, w2, fun i hi => nxN_un (L := L) (by omega) (Int.le_refl _) w1 i hi, fun i hi => nxN_un (L := L) (m := m) (by omega) (by omega) (by omega) i hi⟩
    · rw [upR_end c]; exact ha
theorem upR_len (ds : List Gd) (L : Int) (f : Nat) : ∀ (a : List (List Int)) (m : Int), (L - m).toNat ≤ f → a.length ≤ (upR ds L a m).length ∧ ((upR ds L a m).length = a.length ↔ covT ds m L) := by
  induction f with
  | zero =>
    intro a m hf
    rw [upR_end (by omega)]
    exact ⟨Nat.le_refl _, fun _ x h1 h2 => by omega, fun _ => rfl⟩
  | succ f ih =>
    intro a m hf
    by_cases c : m < L
    · by_cases d : 0 ≤ rcN ds m
      · rw [upR_cov c d]
        have w := ih a (m + 1) (by omega)
        refine ⟨w.1, w.2.trans ⟨fun h x h1 h2 => ?_, fun h x h1 h2 => h x (by omega) h2⟩⟩
        by_cases e : x = m
        · rw [e]; exact d
        · exact h x (by omega) h2
      · rw [upR_part c d]
        have u : m < nxN ds L m := (nxK_lo ds L m c ds.length).1
        have w := ih (a ++ [[m, nxN ds L m]]) (nxN ds L m) (by omega)
        have w1 := w.1
        rw [List.length_append, List.length_singleton] at w1
        refine ⟨by omega, fun h => ?_, fun h => absurd (h m (by omega) c) d⟩
        omega
    · rw [upR_end c]
      exact ⟨Nat.le_refl _, fun _ x h1 h2 => by omega, fun _ => rfl⟩
theorem un_fw (ds : List Gd) (L : Int) : upR ds L [] 0 = [] ↔ (fwR ds L [] 0).2 = 0 := by
  rw [fwR_0 ds L _ [] 0 (Nat.le_refl _), ← (upR_len ds L _ [] 0 (Nat.le_refl _)).2]
  simp
/-- where a chain stands behind its first j -/
def stA (ds : List Gd) (l : List Int) (j : Nat) : Int := if j = 0 then 0 else twA ds (l.getD (j - 1) 0)
theorem chn_at {ds : List Gd} {L : Int} : ∀ (l : List Int) (m : Int), chn ds L m l → ∀ j, j < l.length → (0 ≤ l.getD j 0 ∧ (l.getD j 0).toNat < ds.length) ∧ (gGd ds (l.getD j 0).toNat).fr ≤ (if j = 0 then m else twA ds (l.getD (j - 1) 0)) ∧ (if j = 0 then m else twA ds (l.getD (j - 1) 0)) < twA ds (l.getD j 0) := by
  intro l
  induction l with
  | nil => intro m h j hj; simp at hj
  | cons k t ih =>
    intro m h j hj
    unfold chn at h
    obtain ⟨h1, h2, h3, h4, h5, h6⟩ := h
    cases j with
    | zero => simp; exact ⟨⟨h2, h3⟩, h4, h5⟩
    | succ j =>
      have := ih _ h6 j (by simpa using hj)
      cases j with
      | zero => simpa using this
      | succ j => simpa using this
theorem chn_end {ds : List Gd} {L : Int} : ∀ (l : List Int) (m : Int), chn ds L m l → L ≤ (if l.length = 0 then m else twA ds (l.getD (l.length - 1) 0)) := by
  intro l
  induction l with
  | nil => intro m h; simpa [chn] using h
  | cons k t ih =>
    intro m h
    unfold chn at h
    have := ih _ h.2.2.2.2.2
    cases t with
    | nil => simpa using this
    | cons b u => simpa using this

end Go.Proofs.YtfhckmlmfigfjaaGreatDoor
namespace Go.Proofs.YtfhckmlmfigfjaaGreatDoor
open Go.AG Go.Lib

attribute [local go_sem] beq_self_eq_true bne_self_eq_false Bool.not_true Bool.not_false
theorem okG_gd {ds : List Gd} (h : okG ds = true) {i : Nat} (hi : i < ds.length) : 0 ≤ (gGd ds i).fr ∧ (gGd ds i).fr < (gGd ds i).tw ∧ (gGd ds i).tw ≤ 300000 := by
  unfold okG at h
  rw [Bool.and_eq_true, decide_eq_true_eq] at h
  have := h.1 i hi
  unfold okGb gdB at this
  rw [Bool.and_eq_true, Bool.and_eq_true, decide_eq_true_eq] at this
  exact this.1.2
theorem gAt1_ok (ds : List Gd) (m : Int) (i : Nat) (h : okG ds = true) (hi : i < ds.length) : ACalls Tryz.prog 186 [I i, .ip [I m] 0, .ip [.sl ds.length (cGd ds)] 0] [] (fun r o => r = B (knB ds m i) ∧ o = []) := by
  refine ACalls.of_vc Tryz.func186 rfl (by decide) 18 rfl [.tmp 4] rfl (by simp) ?_
  have h1 := in_ok m (gGd ds i).fr ((gGd ds i).tw - 1)
  have hb := okG_gd h hi
  have hl := okG_len h
  unfold knB
  (repeat (first | simp (maxSteps := 2000000) (disch := omega) only [go_sem, ↓reduceIte] | with_reducible refine vIf_t ?_ | with_reducible refine vIf_f ?_))
  (refine vDraw_sch 12 [(2, false), (7, false), (0, false), (1, false), (3, false), (4, false), (5, false), (6, false), (8, false), (9, false), (10, false), (11, false)] mixed (by kernel_rfl) ?_; simp only [List.cons_append, List.nil_append, List.map_cons, List.map_nil, nthO_zero, nthO_succ, List.drop_succ_cons, List.drop_zero, List.drop_nil]; (repeat (first | simp (maxSteps := 2000000) (disch := omega) only [go_sem, ↓reduceIte] | with_reducible refine vIf_t ?_ | with_reducible refine vIf_f ?_)))
  (refine vCallX_of ?_; (repeat (first | simp (maxSteps := 2000000) (disch := omega) only [go_sem, ↓reduceIte] | with_reducible refine vIf_t ?_ | with_reducible refine vIf_f ?_)); refine vCall_eq (h1) (by simp (disch := omega) only [go_sem]) rfl (by first | exact Or.inl rfl | exact Or.inr ⟨rfl, rfl⟩ | (apply Or.inr; simp only [go_sem])) ?_; (repeat (first | simp (maxSteps := 2000000) (disch := omega) only [go_sem, ↓reduceIte] | with_reducible refine vIf_t ?_ | with_reducible refine vIf_f ?_)))
  (refine retK_of ?_; (repeat (first | simp (maxSteps := 2000000) (disch := omega) only [go_sem, ↓reduceIte] | with_reducible refine vIf_t ?_ | with_reducible refine vIf_f ?_)))
theorem gAt_ok (ds : List Gd) (m : Int) (h : okG ds = true) : ACalls Tryz.prog 95 [.sl ds.length (cGd ds), I m] [] (fun r o => r = .ref 0 0 (ixs ds.length (knB ds m)).length ∧ o = [oI (ixs ds.length (knB ds m))]) := by
  refine ACalls.of_vc Tryz.func95 rfl (by decide) 9 rfl [.tmp 4] rfl (by simp) ?_
  have hl := okG_len h
  have h1 := sizeG_ok (cGd ds) ds.length
  have h2 := ixw_ok ds.length 186 [.ip [I m] 0, .ip [.sl ds.length (cGd ds)] 0] (knB ds m) (fun i hi => gAt1_ok ds m i h hi) rfl (by omega)
  (repeat (first | simp (maxSteps := 2000000) (disch := omega) only [go_sem, ↓reduceIte] | with_reducible refine vIf_t ?_ | with_reducible refine vIf_f ?_))
  (refine vCallX_of ?_; (repeat (first | simp (maxSteps := 2000000) (disch := omega) only [go_sem, ↓reduceIte] | with_reducible refine vIf_t ?_ | with_reducible refine vIf_f ?_)); refine vCall_eq (h1) (by simp (disch := omega) only [go_sem]) rfl (by first | exact Or.inl rfl | exact Or.inr ⟨rfl, rfl⟩ | (apply Or.inr; simp only [go_sem])) ?_; (repeat (first | simp (maxSteps := 2000000) (disch := omega) only [go_sem, ↓reduceIte] | with_reducible refine vIf_t ?_ | with_reducible refine vIf_f ?_)))
  (refine vCallX_fz 0 _ rfl (by (repeat (first | simp (maxSteps := 2000000) (disch := omega) only [go_sem, ↓reduceIte] | with_reducible refine vIf_t ?_ | with_reducible refine vIf_f ?_))) ?_; (repeat (first | simp (maxSteps := 2000000) (disch := omega) only [go_sem, ↓reduceIte] | with_reducible refine vIf_t ?_ | with_reducible refine vIf_f ?_)); refine vCallX_fz 1 _ rfl (by (repeat (first | simp (maxSteps := 2000000) (disch := omega) only [go_sem, ↓reduceIte] | with_reducible refine vIf_t ?_ | with_reducible refine vIf_f ?_))) ?_; (repeat (first | simp (maxSteps := 2000000) (disch := omega) only [go_sem, ↓reduceIte] | with_reducible refine vIf_t ?_ | with_reducible refine vIf_f ?_)))
  (refine vCallX_of ?_; (repeat (first | simp (maxSteps := 2000000) (disch := omega) only [go_sem, ↓reduceIte] | with_reducible refine vIf_t ?_ | with_reducible refine vIf_f ?_)); refine vCall_eq (h2) (by simp (disch := omega) only [go_sem]) rfl (by first | exact Or.inl rfl | exact Or.inr ⟨rfl, rfl⟩ | (apply Or.inr; simp only [go_sem])) ?_; (repeat (first | simp (maxSteps := 2000000) (disch := omega) only [go_sem, ↓reduceIte] | with_reducible refine vIf_t ?_ | with_reducible refine vIf_f ?_)))
  (refine retK_of ?_; (repeat (first | simp (maxSteps := 2000000) (disch := omega) only [go_sem, ↓reduceIte] | with_reducible refine vIf_t ?_ | with_reducible refine vIf_f ?_)))
def gaC (ds : List Gd) (m : Int) : Int := if okG ds = true then if 0 ≤ m ∧ m ≤ 299999 then 0 else 2 else 1
def gaV (ds : List Gd) (m : Int) : List Int := if gaC ds m = 0 then ixs ds.length (knB ds m) else []
def leC (ds : List Gd) (L : Int) : Int := if okG ds = true then if 1 ≤ L ∧ L ≤ 300000 then 0 else 2 else 1
theorem leC_0 {ds : List Gd} {L : Int} (h : leC ds L = 0) : okG ds = true ∧ 1 ≤ L ∧ L ≤ 300000 := by
  unfold leC at h
  split at h
  · rename_i h1
    split at h
    · rename_i h2; exact ⟨h1, h2⟩
    · omega
  · omega
set_option maxHeartbeats 4000000 in
theorem guardsAt_ok (ds : List Gd) (m : Int) (hZ : NmZ ds) (hl : ds.length ≤ 10000000) : ACalls Tryz.prog 17 [.sl ds.length (cGd ds), I m] [] (RowR (gaV ds m) (gaC ds m)) := by
  refine ACalls.of_vc Tryz.func17 rfl (by decide) 19 rfl [.tmp 4, .tmp 5] rfl (by simp) ?_
  have h1 := validG_ok ds hZ hl
  have h2 := in_ok m 0 299999
  by_cases c1 : okG ds = true
  case neg =>
    have e1 : okG ds = false := by simpa using c1
    have e : gaC ds m = 1 := by unfold gaC; rw [if_neg c1]
    have e2 : gaV ds m = [] := by unfold gaV; rw [if_neg (by omega)]
    rw [e1] at h1
    (repeat (first | simp (maxSteps := 2000000) (disch := omega) only [go_sem, ↓reduceIte] | with_reducible refine vIf_t ?_ | with_reducible refine vIf_f ?_))
    (refine vCallX_of ?_; (repeat (first | simp (maxSteps := 2000000) (disch := omega) only [go_sem, ↓reduceIte] | with_reducible refine vIf_t ?_ | with_reducible refine vIf_f ?_)); refine vCall_eq (h1) (by simp (disch := omega) only [go_sem]) rfl (by first | exact Or.inl rfl | exact Or.inr ⟨rfl, rfl⟩ | (apply Or.inr; simp only [go_sem])) ?_; (repeat (first | simp (maxSteps := 2000000) (disch := omega) only [go_sem, ↓reduceIte] | with_reducible refine vIf_t ?_ | with_reducible refine vIf_f ?_)))
    (refine retK_of ?_; (repeat (first | simp (maxSteps := 2000000) (disch := omega) only [go_sem, ↓reduceIte] | with_reducible refine vIf_t ?_ | with_reducible refine vIf_f ?_)))
    exact .inl ⟨by rw [e2, e]; rfl, by rw [e2]; rfl⟩
  rw [c1] at h1
  by_cases c2 : 0 ≤ m ∧ m ≤ 299999
  case neg =>
    have e : gaC ds m = 2 := by unfold gaC; rw [if_pos c1, if_neg c2]
    have e2 : gaV ds m = [] := by unfold gaV; rw [if_neg (by omega)]
    rw [decide_eq_false c2] at h2
    (repeat (first | simp (maxSteps := 2000000) (disch := omega) only [go_sem, ↓reduceIte] | with_reducible refine vIf_t ?_ | with_reducible refine vIf_f ?_))
    (refine vCallX_of ?_; (repeat (first | simp (maxSteps := 2000000) (disch := omega) only [go_sem, ↓reduceIte] | with_reducible refine vIf_t ?_ | with_reducible refine vIf_f ?_)); refine vCall_eq (h1) (by simp (disch := omega) only [go_sem]) rfl (by first | exact Or.inl rfl | exact Or.inr ⟨rfl, rfl⟩ | (apply Or.inr; simp only [go_sem])) ?_; (repeat (first | simp (maxSteps := 2000000) (disch := omega) only [go_sem, ↓reduceIte] | with_reducible refine vIf_t ?_ | with_reducible refine vIf_f ?_)))
    (refine vCallX_of ?_; (repeat (first | simp (maxSteps := 2000000) (disch := omega) only [go_sem, ↓reduceIte] | with_reducible refine vIf_t ?_ | with_reducible refine vIf_f ?_)); refine vCall_eq (h2) (by simp (disch := omega) only [go_sem]) rfl (by first | exact Or.inl rfl | exact Or.inr ⟨rfl, rfl⟩ | (apply Or.inr; simp only [go_sem])) ?_; (repeat (first | simp (maxSteps := 2000000) (disch := omega) only [go_sem, ↓reduceIte] | with_reducible refine vIf_t ?_ | with_reducible refine vIf_f ?_)))
    (refine retK_of ?_; (repeat (first | simp (maxSteps := 2000000) (disch := omega) only [go_sem, ↓reduceIte] | with_reducible refine vIf_t ?_ | with_reducible refine vIf_f ?_)))
    exact .inl ⟨by rw [e2, e]; rfl, by rw [e2]; rfl⟩
  have e : gaC ds m = 0 := by unfold gaC; rw [if_pos c1, if_pos c2]
  have e2 : gaV ds m = ixs ds.length (knB ds m) := by unfold gaV; rw [if_pos e]
  rw [decide_eq_true c2] at h2
  have h3 := gAt_ok ds m c1
  (repeat (first | simp (maxSteps := 2000000) (disch := omega) only [go_sem, ↓reduceIte] | with_reducible refine vIf_t ?_ | with_reducible refine vIf_f ?_))
  (refine vCallX_of ?_; (repeat (first | simp (maxSteps := 2000000) (disch := omega) only [go_sem, ↓reduceIte] | with_reducible refine vIf_t ?_ | with_reducible refine vIf_f ?_)); refine vCall_eq (h1) (by simp (disch := omega) only [go_sem]) rfl (by first | exact Or.inl rfl | exact Or.inr ⟨rfl, rfl⟩ | (apply Or.inr; simp only [go_sem])) ?_; (repeat (first | simp (maxSteps := 2000000) (disch := omega) only [go_sem, ↓reduceIte] | with_reducible refine vIf_t ?_ | with_reducible refine vIf_f ?_)))
  (refine vCallX_of ?_; (repeat (first | simp (maxSteps := 2000000) (disch := omega) only [go_sem, ↓reduceIte] | with_reducible refine vIf_t ?_ | with_reducible refine vIf_f ?_)); refine vCall_eq (h2) (by simp (disch := omega) only [go_sem]) rfl (by first | exact Or.inl rfl | exact Or.inr ⟨rfl, rfl⟩ | (apply Or.inr; simp only [go_sem])) ?_; (repeat (first | simp (maxSteps := 2000000) (disch := omega) only [go_sem, ↓reduceIte] | with_reducible refine vIf_t ?_ | with_reducible refine vIf_f ?_)))
  (refine vCallX_of ?_; (repeat (first | simp (maxSteps := 2000000) (disch := omega) only [go_sem, ↓reduceIte] | with_reducible refine vIf_t ?_ | with_reducible refine vIf_f ?_)); refine vCall_eq (h3) (by simp (disch := omega) only [go_sem]) rfl (by first | exact Or.inl rfl | exact Or.inr ⟨rfl, rfl⟩ | (apply Or.inr; simp only [go_sem])) ?_; (repeat (first | simp (maxSteps := 2000000) (disch := omega) only [go_sem, ↓reduceIte] | with_reducible refine vIf_t ?_ | with_reducible refine vIf_f ?_)))
  (refine retK_of ?_; (repeat (first | simp (maxSteps := 2000000) (disch := omega) only [go_sem, ↓reduceIte] | with_reducible refine vIf_t ?_ | with_reducible refine vIf_f ?_)))
  exact .inl ⟨by rw [e2, e], by rw [e2]; rfl⟩
theorem lengthC_ok (ds : List Gd) (L : Int) (hZ : NmZ ds) (hl : ds.length ≤ 10000000) : ACalls Tryz.prog 94 [.sl ds.length (cGd ds), I L] [] (fun r o => r = I (leC ds L) ∧ o = []) := by
  refine ACalls.of_vc Tryz.func94 rfl (by decide) 13 rfl [.tmp 4] rfl (by simp) ?_
  have h1 := validG_ok ds hZ hl
  have h2 := in_ok L 1 300000
  unfold leC
  by_cases c1 : okG ds = true
  case neg =>
    have e1 : okG ds = false := by simpa using c1
    rw [e1] at h1
    rw [if_neg c1]
    (repeat (first | simp (maxSteps := 2000000) (disch := omega) only [go_sem, ↓reduceIte] | with_reducible refine vIf_t ?_ | with_reducible refine vIf_f ?_))
    (refine vCallX_of ?_; (repeat (first | simp (maxSteps := 2000000) (disch := omega) only [go_sem, ↓reduceIte] | with_reducible refine vIf_t ?_ | with_reducible refine vIf_f ?_)); refine vCall_eq (h1) (by simp (disch := omega) only [go_sem]) rfl (by first | exact Or.inl rfl | exact Or.inr ⟨rfl, rfl⟩ | (apply Or.inr; simp only [go_sem])) ?_; (repeat (first | simp (maxSteps := 2000000) (disch := omega) only [go_sem, ↓reduceIte] | with_reducible refine vIf_t ?_ | with_reducible refine vIf_f ?_)))
    (refine retK_of ?_; (repeat (first | simp (maxSteps := 2000000) (disch := omega) only [go_sem, ↓reduceIte] | with_reducible refine vIf_t ?_ | with_reducible refine vIf_f ?_)))
  rw [c1] at h1
  rw [if_pos c1]
  by_cases c2 : 1 ≤ L ∧ L ≤ 300000
  · rw [decide_eq_true c2] at h2
    rw [if_pos c2]
    (repeat (first | simp (maxSteps := 2000000) (disch := omega) only [go_sem, ↓reduceIte] | with_reducible refine vIf_t ?_ | with_reducible refine vIf_f ?_))
    (refine vCallX_of ?_; (repeat (first | simp (maxSteps := 2000000) (disch := omega) only [go_sem, ↓reduceIte] | with_reducible refine vIf_t ?_ | with_reducible refine vIf_f ?_)); refine vCall_eq (h1) (by simp (disch := omega) only [go_sem]) rfl (by first | exact Or.inl rfl | exact Or.inr ⟨rfl, rfl⟩ | (apply Or.inr; simp only [go_sem])) ?_; (repeat (first | simp (maxSteps := 2000000) (disch := omega) only [go_sem, ↓reduceIte] | with_reducible refine vIf_t ?_ | with_reducible refine vIf_f ?_)))
    (refine vCallX_of ?_; (repeat (first | simp (maxSteps := 2000000) (disch := omega) only [go_sem, ↓reduceIte] | with_reducible refine vIf_t ?_ | with_reducible refine vIf_f ?_)); refine vCall_eq (h2) (by simp (disch := omega) only [go_sem]) rfl (by first | exact Or.inl rfl | exact Or.inr ⟨rfl, rfl⟩ | (apply Or.inr; simp only [go_sem])) ?_; (repeat (first | simp (maxSteps := 2000000) (disch := omega) only [go_sem, ↓reduceIte] | with_reducible refine vIf_t ?_ | with_reducible refine vIf_f ?_)))
    (refine retK_of ?_; (repeat (first | simp (maxSteps := 2000000) (disch := omega) only [go_sem, ↓reduceIte] | with_reducible refine vIf_t ?_ | with_reducible refine vIf_f ?_)))
  · rw [decide_eq_false c2] at h2
    rw [if_neg c2]
    (repeat (first | simp (maxSteps := 2000000) (disch := omega) only [go_sem, ↓reduceIte] | with_reducible refine vIf_t ?_ | with_reducible refine vIf_f ?_))
    (refine vCallX_of ?_; (repeat (first | simp (maxSteps := 2000000) (disch := omega) only [go_sem, ↓reduceIte] | with_reducible refine vIf_t ?_ | with_reducible refine vIf_f ?_)); refine vCall_eq (h1) (by simp (disch := omega) only [go_sem]) rfl (by first | exact Or.inl rfl | exact Or.inr ⟨rfl, rfl⟩ | (apply Or.inr; simp only [go_sem])) ?_; (repeat (first | simp (maxSteps := 2000000) (disch := omega) only [go_sem, ↓reduceIte] | with_reducible refine vIf_t ?_ | with_reducible refine vIf_f ?_)))
    (refine vCallX_of ?_; (repeat (first | simp (maxSteps := 2000000) (disch := omega) only [go_sem, ↓reduceIte] | with_reducible refine vIf_t ?_ | with_reducible refine vIf_f ?_)); refine vCall_eq (h2) (by simp (disch := omega) only [go_sem]) rfl (by first | exact Or.inl rfl | exact Or.inr ⟨rfl, rfl⟩ | (apply Or.inr; simp only [go_sem])) ?_; (repeat (first | simp (maxSteps := 2000000) (disch := omega) only [go_sem, ↓reduceIte] | with_reducible refine vIf_t ?_ | with_reducible refine vIf_f ?_)))
    (refine retK_of ?_; (repeat (first | simp (maxSteps := 2000000) (disch := omega) only [go_sem, ↓reduceIte] | with_reducible refine vIf_t ?_ | with_reducible refine vIf_f ?_)))
theorem l17Code_ok (ds : List Gd) (L : Int) (hZ : NmZ ds) (hl : ds.length ≤ 10000000) : ACalls Tryz.prog 96 [.sl ds.length (cGd ds), I L] [] (fun r o => r = I (leC ds L) ∧ o = []) := by
  refine ACalls.of_vc Tryz.func96 rfl (by decide) 11 rfl [.tmp 4] rfl (by simp) ?_
  have h1 := validGS_ok ds hZ hl
  have h2 := inS_ok L 1 300000
  unfold leC
  by_cases c1 : okG ds = true
  case neg =>
    have e1 : okG ds = false := by simpa using c1
    rw [e1] at h1
    rw [if_neg c1]
    (repeat (first | simp (maxSteps := 2000000) (disch := omega) only [go_sem, ↓reduceIte] | with_reducible refine vIf_t ?_ | with_reducible refine vIf_f ?_))
    (refine vCallX_of ?_; (repeat (first | simp (maxSteps := 2000000) (disch := omega) only [go_sem, ↓reduceIte] | with_reducible refine vIf_t ?_ | with_reducible refine vIf_f ?_)); refine vCall_eq (h1) (by simp (disch := omega) only [go_sem]) rfl (by first | exact Or.inl rfl | exact Or.inr ⟨rfl, rfl⟩ | (apply Or.inr; simp only [go_sem])) ?_; (repeat (first | simp (maxSteps := 2000000) (disch := omega) only [go_sem, ↓reduceIte] | with_reducible refine vIf_t ?_ | with_reducible refine vIf_f ?_)))
    (refine retK_of ?_; (repeat (first | simp (maxSteps := 2000000) (disch := omega) only [go_sem, ↓reduceIte] | with_reducible refine vIf_t ?_ | with_reducible refine vIf_f ?_)))
  rw [c1] at h1
  rw [if_pos c1]
  by_cases c2 : 1 ≤ L ∧ L ≤ 300000
  · rw [decide_eq_true c2] at h2
    rw [if_pos c2]
    (repeat (first | simp (maxSteps := 2000000) (disch := omega) only [go_sem, ↓reduceIte] | with_reducible refine vIf_t ?_ | with_reducible refine vIf_f ?_))
    (refine vCallX_of ?_; (repeat (first | simp (maxSteps := 2000000) (disch := omega) only [go_sem, ↓reduceIte] | with_reducible refine vIf_t ?_ | with_reducible refine vIf_f ?_)); refine vCall_eq (h1) (by simp (disch := omega) only [go_sem]) rfl (by first | exact Or.inl rfl | exact Or.inr ⟨rfl, rfl⟩ | (apply Or.inr; simp only [go_sem])) ?_; (repeat (first | simp (maxSteps := 2000000) (disch := omega) only [go_sem, ↓reduceIte] | with_reducible refine vIf_t ?_ | with_reducible refine vIf_f ?_)))
    (refine vCallX_of ?_; (repeat (first | simp (maxSteps := 2000000) (disch := omega) only [go_sem, ↓reduceIte] | with_reducible refine vIf_t ?_ | with_reducible refine vIf_f ?_)); refine vCall_eq (h2) (by simp (disch := omega) only [go_sem]) rfl (by first | exact Or.inl rfl | exact Or.inr ⟨rfl, rfl⟩ | (apply Or.inr; simp only [go_sem])) ?_; (repeat (first | simp (maxSteps := 2000000) (disch := omega) only [go_sem, ↓reduceIte] | with_reducible refine vIf_t ?_ | with_reducible refine vIf_f ?_)))
    (refine retK_of ?_; (repeat (first | simp (maxSteps := 2000000) (disch := omega) only [go_sem, ↓reduceIte] | with_reducible refine vIf_t ?_ | with_reducible refine vIf_f ?_)))
  · rw [decide_eq_false c2] at h2
    rw [if_neg c2]
    (repeat (first | simp (maxSteps := 2000000) (disch := omega) only [go_sem, ↓reduceIte] | with_reducible refine vIf_t ?_ | with_reducible refine vIf_f ?_))
    (refine vCallX_of ?_; (repeat (first | simp (maxSteps := 2000000) (disch := omega) only [go_sem, ↓reduceIte] | with_reducible refine vIf_t ?_ | with_reducible refine vIf_f ?_)); refine vCall_eq (h1) (by simp (disch := omega) only [go_sem]) rfl (by first | exact Or.inl rfl | exact Or.inr ⟨rfl, rfl⟩ | (apply Or.inr; simp only [go_sem])) ?_; (repeat (first | simp (maxSteps := 2000000) (disch := omega) only [go_sem, ↓reduceIte] | with_reducible refine vIf_t ?_ | with_reducible refine vIf_f ?_)))
    (refine vCallX_of ?_; (repeat (first | simp (maxSteps := 2000000) (disch := omega) only [go_sem, ↓reduceIte] | with_reducible refine vIf_t ?_ | with_reducible refine vIf_f ?_)); refine vCall_eq (h2) (by simp (disch := omega) only [go_sem]) rfl (by first | exact Or.inl rfl | exact Or.inr ⟨rfl, rfl⟩ | (apply Or.inr; simp only [go_sem])) ?_; (repeat (first | simp (maxSteps := 2000000) (disch := omega) only [go_sem, ↓reduceIte] | with_reducible refine vIf_t ?_ | with_reducible refine vIf_f ?_)))
    (refine retK_of ?_; (repeat (first | simp (maxSteps := 2000000) (disch := omega) only [go_sem, ↓reduceIte] | with_reducible refine vIf_t ?_ | with_reducible refine vIf_f ?_)))

end Go.Proofs.YtfhckmlmfigfjaaGreatDoor
namespace Go.Proofs.YtfhckmlmfigfjaaGreatDoor
open Go.AG Go.Lib

attribute [local go_sem] beq_self_eq_true bne_self_eq_false Bool.not_true Bool.not_false Int.toNat_natCast
set_option maxHeartbeats 4000000 in
theorem reachS_ok (ds : List Gd) (m : Int) (h : okG ds = true) : ACalls Tryz.prog 97 [.sl ds.length (cGd ds), I m] [] (fun r o => r = I (rcN ds m) ∧ o = []) := by
  refine ACalls.of_vc Tryz.func97 rfl (by decide) 45 rfl [.tmp 4] rfl (by simp) ?_
  have hl := okG_len h
  (repeat (first | simp (maxSteps := 2000000) (disch := omega) only [go_sem, ↓reduceIte] | with_reducible refine vIf_t ?_ | with_reducible refine vIf_f ?_))
  refine vcLoop_invF (fun k : Nat => k ≤ ds.length) (fun k => ⟨45, 0, [(6, I k), (5, I (rcK ds m k)), (0, .sl ds.length (cGd ds)), (1, I m)], []⟩) (fun k => ds.length - k) 0 (by omega) (by rw [show rcK ds m 0 = -1 from rfl]; (first | (refine leF_s ?_; ((repeat (first | simp (maxSteps := 2000000) (disch := omega) only [go_sem, ↓reduceIte] | with_reducible refine vIf_t ?_ | with_reducible refine vIf_f ?_)); all_goals (try simp); all_goals (try omega)); done) | (refine leF_p ?_; ((repeat (first | simp (maxSteps := 2000000) (disch := omega) only [go_sem, ↓reduceIte] | with_reducible refine vIf_t ?_ | with_reducible refine vIf_f ?_)); all_goals (try simp); all_goals (try omega)); done))) ?_
  intro k hk
  have hlo := rcK_lo ds m k
  have hkn := rcK_kn ds m k
  have hsu : rcK ds m (k + 1) = if knB ds m k = true then rcS ds (rcK ds m k) k else rcK ds m k := rfl
  generalize hr : rcK ds m k = b at *
  (repeat (first | simp (maxSteps := 2000000) (disch := omega) only [go_sem, ↓reduceIte] | with_reducible refine vIf_t ?_ | with_reducible refine vIf_f ?_))
  refine vIf_dec (fun h1 => ?_) (fun h1 => ?_)
  · have hkl : k < ds.length := by omega
    have hb := okG_gd h hkl
    have h2 := inS_ok m (gGd ds k).fr ((gGd ds k).tw - 1)
    rw [show decide ((gGd ds k).fr ≤ m ∧ m ≤ (gGd ds k).tw - 1) = knB ds m k from rfl] at h2
    by_cases c1 : knB ds m k = true
    case neg =>
      have c2 : knB ds m k = false := by simpa using c1
      rw [c2] at h2
      rw [if_neg c1] at hsu
      (repeat (first | simp (maxSteps := 2000000) (disch := omega) only [go_sem, ↓reduceIte] | with_reducible refine vIf_t ?_ | with_reducible refine vIf_f ?_))
      (refine vDraw_sch 27 ([(0, false), (1, false), (2, false), (3, false), (4, false), (6, false), (7, false), (8, false), (9, false), (5, false), (10, false), (11, false), (12, false), (13, false), (14, false), (15, false), (16, false), (17, false), (18, false), (19, false)] ++ [(20, false), (21, false), (22, false), (23, false), (24, false), (25, false), (26, false)]) mixed (by kernel_rfl) ?_; simp only [List.cons_append, List.nil_append, List.map_cons, List.map_nil, nthO_zero, nthO_succ, List.drop_succ_cons, List.drop_zero, List.drop_nil]; (repeat (first | simp (maxSteps := 2000000) (disch := omega) only [go_sem, ↓reduceIte] | with_reducible refine vIf_t ?_ | with_reducible refine vIf_f ?_)))
      (refine vsCallX_of ?_; (try (repeat (first | simp (maxSteps := 2000000) (disch := omega) only [go_sem, ↓reduceIte] | with_reducible refine vIf_t ?_ | with_reducible refine vIf_f ?_))); refine vCall_eq (h2) (by simp (disch := omega) only [go_sem]) rfl (by first | exact Or.inl rfl | exact Or.inr ⟨rfl, rfl⟩ | (apply Or.inr; simp only [go_sem])) ?_; (try (repeat (first | simp (maxSteps := 2000000) (disch := omega) only [go_sem, ↓reduceIte] | with_reducible refine vIf_t ?_ | with_reducible refine vIf_f ?_))))
      (try (repeat (first | simp (maxSteps := 2000000) (disch := omega) only [go_sem, ↓reduceIte] | with_reducible refine vIf_t ?_ | with_reducible refine vIf_f ?_)))
      refine againF (k + 1) (by omega) (by omega) ?_
      rw [hsu]
      (first | (refine leF_s ?_; ((repeat (first | simp (maxSteps := 2000000) (disch := omega) only [go_sem, ↓reduceIte] | with_reducible refine vIf_t ?_ | with_reducible refine vIf_f ?_)); all_goals (try simp); all_goals (try omega)); done) | (refine leF_p ?_; ((repeat (first | simp (maxSteps := 2000000) (disch := omega) only [go_sem, ↓reduceIte] | with_reducible refine vIf_t ?_ | with_reducible refine vIf_f ?_)); all_goals (try simp); all_goals (try omega)); done))
    rw [c1] at h2
    rw [if_pos c1] at hsu
    unfold rcS at hsu
    by_cases c2 : b < 0
    · have d2 := decide_eq_true c2
      rw [if_pos (.inl c2)] at hsu
      (repeat (first | simp (maxSteps := 2000000) (disch := omega) only [go_sem, ↓reduceIte] | with_reducible refine vIf_t ?_ | with_reducible refine vIf_f ?_))
      (refine vDraw_sch 27 ([(0, false), (1, false), (2, false), (3, false), (4, false), (6, false), (7, false), (8, false), (9, false), (5, false), (10, false), (11, false), (12, false), (13, false), (14, false), (15, false), (16, false), (17, false), (18, false), (19, false)] ++ [(20, false), (21, false), (22, false), (23, false), (24, false), (25, false), (26, false)]) mixed (by kernel_rfl) ?_; simp only [List.cons_append, List.nil_append, List.map_cons, List.map_nil, nthO_zero, nthO_succ, List.drop_succ_cons, List.drop_zero, List.drop_nil]; (repeat (first | simp (maxSteps := 2000000) (disch := omega) only [go_sem, ↓reduceIte] | with_reducible refine vIf_t ?_ | with_reducible refine vIf_f ?_)))
      (refine vsCallX_of ?_; (try (repeat (first | simp (maxSteps := 2000000) (disch := omega) only [go_sem, ↓reduceIte] | with_reducible refine vIf_t ?_ | with_reducible refine vIf_f ?_))); refine vCall_eq (h2) (by simp (disch := omega) only [go_sem]) rfl (by first | exact Or.inl rfl | exact Or.inr ⟨rfl, rfl⟩ | (apply Or.inr; simp only [go_sem])) ?_; (try (repeat (first | simp (maxSteps := 2000000) (disch := omega) only [go_sem, ↓reduceIte] | with_reducible refine vIf_t ?_ | with_reducible refine vIf_f ?_))))
      (try (repeat (first | simp (maxSteps := 2000000) (disch := omega) only [go_sem, ↓reduceIte, d2] | with_reducible refine vIf_t ?_ | with_reducible refine vIf_f ?_)))
      refine againF (k + 1) (by omega) (by omega) ?_
      rw [hsu]
      (first | (refine leF_s ?_; ((repeat (first | simp (maxSteps := 2000000) (disch := omega) only [go_sem, ↓reduceIte] | with_reducible refine vIf_t ?_ | with_reducible refine vIf_f ?_)); all_goals (try simp); all_goals (try omega)); done) | (refine leF_p ?_; ((repeat (first | simp (maxSteps := 2000000) (disch := omega) only [go_sem, ↓reduceIte] | with_reducible refine vIf_t ?_ | with_reducible refine vIf_f ?_)); all_goals (try simp); all_goals (try omega)); done))
    · have d2 := decide_eq_false c2
      have hk2 := hkn (by omega)
      obtain ⟨j, rfl⟩ := Int.eq_ofNat_of_zero_le (show 0 ≤ b by omega)
      rw [Int.toNat_natCast] at hk2
      unfold twA at hsu
      rw [Int.toNat_natCast] at hsu
      by_cases c3 : (gGd ds j).tw < (gGd ds k).tw
      · have d3 := decide_eq_true c3
        rw [if_pos (.inr c3)] at hsu
        (repeat (first | simp (maxSteps := 2000000) (disch := omega) only [go_sem, ↓reduceIte] | with_reducible refine vIf_t ?_ | with_reducible refine vIf_f ?_))
        (refine vDraw_sch 27 ([(0, false), (1, false), (2, false), (3, false), (4, false), (6, false), (7, false), (8, false), (9, false), (5, false), (10, false), (11, false), (12, false), (13, false), (14, false), (15, false), (16, false), (17, false), (18, false), (19, false)] ++ [(20, false), (21, false), (22, false), (23, false), (24, false), (25, false), (26, false)]) mixed (by kernel_rfl) ?_; simp only [List.cons_append, List.nil_append, List.map_cons, List.map_nil, nthO_zero, nthO_succ, List.drop_succ_cons, List.drop_zero, List.drop_nil]; (repeat (first | simp (maxSteps := 2000000) (disch := omega) only [go_sem, ↓reduceIte] | with_reducible refine vIf_t ?_ | with_reducible refine vIf_f ?_)))
        (refine vsCallX_of ?_; (try (repeat (first | simp (maxSteps := 2000000) (disch := omega) only [go_sem, ↓reduceIte] | with_reducible refine vIf_t ?_ | with_reducible refine vIf_f ?_))); refine vCall_eq (h2) (by simp (disch := omega) only [go_sem]) rfl (by first | exact Or.inl rfl | exact Or.inr ⟨rfl, rfl⟩ | (apply Or.inr; simp only [go_sem])) ?_; (try (repeat (first | simp (maxSteps := 2000000) (disch := omega) only [go_sem, ↓reduceIte] | with_reducible refine vIf_t ?_ | with_reducible refine vIf_f ?_))))
        (try (repeat (first | simp (maxSteps := 2000000) (disch := omega) only [go_sem, ↓reduceIte, d2, d3] | with_reducible refine vIf_t ?_ | with_reducible refine vIf_f ?_)))
        refine againF (k + 1) (by omega) (by omega) ?_
        rw [hsu]
        (first | (refine leF_s ?_; ((repeat (first | simp (maxSteps := 2000000) (disch := omega) only [go_sem, ↓reduceIte] | with_reducible refine vIf_t ?_ | with_reducible refine vIf_f ?_)); all_goals (try simp); all_goals (try omega)); done) | (refine leF_p ?_; ((repeat (first | simp (maxSteps := 2000000) (disch := omega) only [go_sem, ↓reduceIte] | with_reducible refine vIf_t ?_ | with_reducible refine vIf_f ?_)); all_goals (try simp); all_goals (try omega)); done))
      · have d3 := decide_eq_false c3
        rw [if_neg (by omega)] at hsu
        (repeat (first | simp (maxSteps := 2000000) (disch := omega) only [go_sem, ↓reduceIte] | with_reducible refine vIf_t ?_ | with_reducible refine vIf_f ?_))
        (refine vDraw_sch 27 ([(0, false), (1, false), (2, false), (3, false), (4, false), (6, false), (7, false), (8, false), (9, false), (5, false), (10, false), (11, false), (12, false), (13, false), (14, false), (15, false), (16, false), (17, false), (18, false), (19, false)] ++ [(20, false), (21, false), (22, false), (23, false), (24, false), (25, false), (26, false)]) mixed (by kernel_rfl) ?_; simp only [List.cons_append, List.nil_append, List.map_cons, List.map_nil, nthO_zero, nthO_succ, List.drop_succ_cons, List.drop_zero, List.drop_nil]; (repeat (first | simp (maxSteps := 2000000) (disch := omega) only [go_sem, ↓reduceIte] | with_reducible refine vIf_t ?_ | with_reducible refine vIf_f ?_)))
        (refine vsCallX_of ?_; (try (repeat (first | simp (maxSteps := 2000000) (disch := omega) only [go_sem, ↓reduceIte] | with_reducible refine vIf_t ?_ | with_reducible refine vIf_f ?_))); refine vCall_eq (h2) (by simp (disch := omega) only [go_sem]) rfl (by first | exact Or.inl rfl | exact Or.inr ⟨rfl, rfl⟩ | (apply Or.inr; simp only [go_sem])) ?_; (try (repeat (first | simp (maxSteps := 2000000) (disch := omega) only [go_sem, ↓reduceIte] | with_reducible refine vIf_t ?_ | with_reducible refine vIf_f ?_))))
        (try (repeat (first | simp (maxSteps := 2000000) (disch := omega) only [go_sem, ↓reduceIte, d2, d3] | with_reducible refine vIf_t ?_ | with_reducible refine vIf_f ?_)))
        refine againF (k + 1) (by omega) (by omega) ?_
        rw [hsu]
        (first | (refine leF_s ?_; ((repeat (first | simp (maxSteps := 2000000) (disch := omega) only [go_sem, ↓reduceIte] | with_reducible refine vIf_t ?_ | with_reducible refine vIf_f ?_)); all_goals (try simp); all_goals (try omega)); done) | (refine leF_p ?_; ((repeat (first | simp (maxSteps := 2000000) (disch := omega) only [go_sem, ↓reduceIte] | with_reducible refine vIf_t ?_ | with_reducible refine vIf_f ?_)); all_goals (try simp); all_goals (try omega)); done))
  · have ek : k = ds.length := by omega
    subst ek
    subst hr
    (repeat (first | simp (maxSteps := 2000000) (disch := omega) only [go_sem, ↓reduceIte] | with_reducible refine vIf_t ?_ | with_reducible refine vIf_f ?_))
    (refine retK_of ?_; (repeat (first | simp (maxSteps := 2000000) (disch := omega) only [go_sem, ↓reduceIte] | with_reducible refine vIf_t ?_ | with_reducible refine vIf_f ?_)))
    rfl
def fwC (ds : List Gd) (L : Int) : Int := if leC ds L = 0 then (fwR ds L [] 0).2 else leC ds L
def fwV (ds : List Gd) (L : Int) : List Int := if leC ds L = 0 then (fwR ds L [] 0).1 else []
set_option maxHeartbeats 4000000 in
theorem fewestS_ok (ds : List Gd) (L : Int) (hZ : NmZ ds) (hl : ds.length ≤ 10000000) : ACalls Tryz.prog 10 [.sl ds.length (cGd ds), I L] [] (RowR (fwV ds L) (fwC ds L)) := by
  refine ACalls.of_vc Tryz.func10 rfl (by decide) 35 rfl [.tmp 4, .tmp 5] rfl (by simp) ?_
  have h1 := l17Code_ok ds L hZ hl
  by_cases c1 : leC ds L = 0
  case neg =>
    have d1 : (leC ds L != 0) = true := by simpa using c1
    have e : fwC ds L = leC ds L := by unfold fwC; rw [if_neg c1]
    have e2 : fwV ds L = [] := by unfold fwV; rw [if_neg c1]
    (repeat (first | simp (maxSteps := 2000000) (disch := omega) only [go_sem, ↓reduceIte] | with_reducible refine vIf_t ?_ | with_reducible refine vIf_f ?_))
    (refine vCallX_of ?_; (repeat (first | simp (maxSteps := 2000000) (disch := omega) only [go_sem, ↓reduceIte] | with_reducible refine vIf_t ?_ | with_reducible refine vIf_f ?_)); refine vCall_eq (h1) (by simp (disch := omega) only [go_sem]) rfl (by first | exact Or.inl rfl | exact Or.inr ⟨rfl, rfl⟩ | (apply Or.inr; simp only [go_sem])) ?_; (repeat (first | simp (maxSteps := 2000000) (disch := omega) only [go_sem, ↓reduceIte] | with_reducible refine vIf_t ?_ | with_reducible refine vIf_f ?_)))
    (try (repeat (first | simp (maxSteps := 2000000) (disch := omega) only [go_sem, ↓reduceIte, d1] | with_reducible refine vIf_t ?_ | with_reducible refine vIf_f ?_)))
    (refine retK_of ?_; (repeat (first | simp (maxSteps := 2000000) (disch := omega) only [go_sem, ↓reduceIte] | with_reducible refine vIf_t ?_ | with_reducible refine vIf_f ?_)))
    exact .inr ⟨e2, by rw [e], rfl⟩
  have e : fwC ds L = (fwR ds L [] 0).2 := by unfold fwC; rw [if_pos c1]
  have e2 : fwV ds L = (fwR ds L [] 0).1 := by unfold fwV; rw [if_pos c1]
  obtain ⟨q1, q2, q3⟩ := leC_0 c1
  rw [c1] at h1
  (repeat (first | simp (maxSteps := 2000000) (disch := omega) only [go_sem, ↓reduceIte] | with_reducible refine vIf_t ?_ | with_reducible refine vIf_f ?_))
  (refine vCallX_of ?_; (repeat (first | simp (maxSteps := 2000000) (disch := omega) only [go_sem, ↓reduceIte] | with_reducible refine vIf_t ?_ | with_reducible refine vIf_f ?_)); refine vCall_eq (h1) (by simp (disch := omega) only [go_sem]) rfl (by first | exact Or.inl rfl | exact Or.inr ⟨rfl, rfl⟩ | (apply Or.inr; simp only [go_sem])) ?_; (repeat (first | simp (maxSteps := 2000000) (disch := omega) only [go_sem, ↓reduceIte] | with_reducible refine vIf_t ?_ | with_reducible refine vIf_f ?_)))
  refine vcLoop_invF (fun s : List Int × Int => (0 ≤ s.2 ∧ s.2 ≤ 300000) ∧ (s.1.length : Int) ≤ s.2 ∧ fwR ds L s.1 s.2 = fwR ds L [] 0) (fun s => ⟨35, 0, [(0, .sl ds.length (cGd ds)), (7, .ref 0 0 s.1.length), (8, I s.2), (1, I L)], [oI s.1]⟩) (fun s => (L - s.2).toNat) ([], 0) ⟨by simp, by simp, rfl⟩ (by (first | (refine leF_s ?_; ((repeat (first | simp (maxSteps := 2000000) (disch := omega) only [go_sem, ↓reduceIte] | with_reducible refine vIf_t ?_ | with_reducible refine vIf_f ?_)); all_goals (try simp); all_goals (try omega)); done) | (refine leF_p ?_; ((repeat (first | simp (maxSteps := 2000000) (disch := omega) only [go_sem, ↓reduceIte] | with_reducible refine vIf_t ?_ | with_reducible refine vIf_f ?_)); all_goals (try simp); all_goals (try omega)); done))) ?_
  rintro ⟨a, m⟩ ⟨hm, hlen, he⟩
  simp only at hm hlen he
  (repeat (first | simp (maxSteps := 2000000) (disch := omega) only [go_sem, ↓reduceIte] | with_reducible refine vIf_t ?_ | with_reducible refine vIf_f ?_))
  refine vIf_dec (fun c2 => ?_) (fun c2 => ?_)
  · have h3 := reachS_ok ds m q1
    (repeat (first | simp (maxSteps := 2000000) (disch := omega) only [go_sem, ↓reduceIte] | with_reducible refine vIf_t ?_ | with_reducible refine vIf_f ?_))
    (refine vCallX_of ?_; (repeat (first | simp (maxSteps := 2000000) (disch := omega) only [go_sem, ↓reduceIte] | with_reducible refine vIf_t ?_ | with_reducible refine vIf_f ?_)); refine vCall_eq (h3) (by simp (disch := omega) only [go_sem]) rfl (by first | exact Or.inl rfl | exact Or.inr ⟨rfl, rfl⟩ | (apply Or.inr; simp only [go_sem])) ?_; (repeat (first | simp (maxSteps := 2000000) (disch := omega) only [go_sem, ↓reduceIte] | with_reducible refine vIf_t ?_ | with_reducible refine vIf_f ?_)))
    by_cases c3 : 0 ≤ rcN ds m
    · have w := rcN_tw c3
      have hb := okG_gd q1 w.2.2
      rw [fwR_go c2 c3] at he
      unfold twA at he w
      generalize rcN ds m = b at *
      obtain ⟨j, rfl⟩ := Int.eq_ofNat_of_zero_le c3
      rw [Int.toNat_natCast] at w hb he
      (repeat (first | simp (maxSteps := 2000000) (disch := omega) only [go_sem, ↓reduceIte] | with_reducible refine vIf_t ?_ | with_reducible refine vIf_f ?_))
      refine againF (a ++ [(j : Int)], (gGd ds j).tw) ⟨by simp only; omega, by simp only [List.length_append, List.length_singleton]; omega, he⟩ (by simp only; omega) (by (first | (refine leF_s ?_; ((repeat (first | simp (maxSteps := 2000000) (disch := omega) only [go_sem, ↓reduceIte] | with_reducible refine vIf_t ?_ | with_reducible refine vIf_f ?_)); all_goals (try simp); all_goals (try omega)); done) | (refine leF_p ?_; ((repeat (first | simp (maxSteps := 2000000) (disch := omega) only [go_sem, ↓reduceIte] | with_reducible refine vIf_t ?_ | with_reducible refine vIf_f ?_)); all_goals (try simp); all_goals (try omega)); done)))
    · rw [fwR_no c2 (by omega)] at he
      have c4 : rcN ds m < 0 := by omega
      (repeat (first | simp (maxSteps := 2000000) (disch := omega) only [go_sem, ↓reduceIte] | with_reducible refine vIf_t ?_ | with_reducible refine vIf_f ?_))
      (refine retK_of ?_; (repeat (first | simp (maxSteps := 2000000) (disch := omega) only [go_sem, ↓reduceIte] | with_reducible refine vIf_t ?_ | with_reducible refine vIf_f ?_)))
      exact .inr ⟨by rw [e2, ← he], by rw [e, ← he], rfl⟩
  · rw [fwR_end c2] at he
    (repeat (first | simp (maxSteps := 2000000) (disch := omega) only [go_sem, ↓reduceIte] | with_reducible refine vIf_t ?_ | with_reducible refine vIf_f ?_))
    (refine retK_of ?_; (repeat (first | simp (maxSteps := 2000000) (disch := omega) only [go_sem, ↓reduceIte] | with_reducible refine vIf_t ?_ | with_reducible refine vIf_f ?_)))
    exact .inl ⟨by rw [e2, e, ← he], by rw [e2, ← he]; rfl⟩

end Go.Proofs.YtfhckmlmfigfjaaGreatDoor
namespace Go.Proofs.YtfhckmlmfigfjaaGreatDoor
open Go.AG Go.Lib

attribute [local go_sem] beq_self_eq_true bne_self_eq_false Bool.not_true Bool.not_false Int.toNat_natCast
theorem ixs_at (n : Nat) (q : Nat → Bool) (j : Nat) (h : j < (ixs n q).length) : ∃ i : Nat, (ixs n q).getD j 0 = (i : Int) ∧ i < n ∧ q i = true := by
  have hm : (ixs n q).getD j 0 ∈ ixs n q := by
    rw [List.getD_eq_getElem?_getD, List.getElem?_eq_getElem h]
    exact List.getElem_mem h
  generalize (ixs n q).getD j 0 = x at *
  unfold ixs at hm
  rw [List.mem_map] at hm
  obtain ⟨i, hi, e⟩ := hm
  rw [List.mem_filter, List.mem_range] at hi
  exact ⟨i, e.symm, hi.1, hi.2⟩
theorem flA_rng (ds : List Gd) (n : Nat) (q : Nat → Bool) (j : Nat) (h : j ≤ (ixs n q).length) : -1 ≤ flA ds (ixs n q) j ∧ (0 ≤ flA ds (ixs n q) j → (flA ds (ixs n q) j).toNat < n) := by
  induction j with
  | zero => rw [flA_zero]; exact ⟨by omega, fun hh => by omega⟩
  | succ j ih =>
    have w := ih (by omega)
    obtain ⟨i, e, hi, _⟩ := ixs_at n q j (by omega)
    rw [flA_succ _ _ _ (by omega), e, Int.toNat_natCast]
    unfold rcS
    split
    · exact ⟨by omega, fun _ => by omega⟩
    · exact w
set_option maxHeartbeats 4000000 in
set_option maxRecDepth 4000 in
theorem fewest_ok (ds : List Gd) (L : Int) (hZ : NmZ ds) (hl : ds.length ≤ 10000000) : ACalls Tryz.prog 9 [.sl ds.length (cGd ds), I L] [] (RowR (fwV ds L) (fwC ds L)) := by
  refine ACalls.of_vc Tryz.func9 rfl (by decide) 61 rfl [.tmp 4, .tmp 5] rfl (by simp) ?_
  have h1 := lengthC_ok ds L hZ hl
  by_cases c1 : leC ds L = 0
  case neg =>
    have d1 : (leC ds L != 0) = true := by simpa using c1
    have e : fwC ds L = leC ds L := by unfold fwC; rw [if_neg c1]
    have e2 : fwV ds L = [] := by unfold fwV; rw [if_neg c1]
    (repeat (first | simp (maxSteps := 2000000) (disch := omega) only [go_sem, ↓reduceIte] | with_reducible refine vIf_t ?_ | with_reducible refine vIf_f ?_))
    (refine vCallX_of ?_; (repeat (first | simp (maxSteps := 2000000) (disch := omega) only [go_sem, ↓reduceIte] | with_reducible refine vIf_t ?_ | with_reducible refine vIf_f ?_)); refine vCall_eq (h1) (by simp (disch := omega) only [go_sem]) rfl (by first | exact Or.inl rfl | exact Or.inr ⟨rfl, rfl⟩ | (apply Or.inr; simp only [go_sem])) ?_; (repeat (first | simp (maxSteps := 2000000) (disch := omega) only [go_sem, ↓reduceIte] | with_reducible refine vIf_t ?_ | with_reducible refine vIf_f ?_)))
    (try (repeat (first | simp (maxSteps := 2000000) (disch := omega) only [go_sem, ↓reduceIte, d1] | with_reducible refine vIf_t ?_ | with_reducible refine vIf_f ?_)))
    (refine retK_of ?_; (repeat (first | simp (maxSteps := 2000000) (disch := omega) only [go_sem, ↓reduceIte] | with_reducible refine vIf_t ?_ | with_reducible refine vIf_f ?_)))
    exact .inl ⟨by rw [e2, e]; rfl, by rw [e2]; rfl⟩
  have e : fwC ds L = (fwR ds L [] 0).2 := by unfold fwC; rw [if_pos c1]
  have e2 : fwV ds L = (fwR ds L [] 0).1 := by unfold fwV; rw [if_pos c1]
  obtain ⟨q1, q2, q3⟩ := leC_0 c1
  have hn := okG_len q1
  rw [c1] at h1
  (repeat (first | simp (maxSteps := 2000000) (disch := omega) only [go_sem, ↓reduceIte] | with_reducible refine vIf_t ?_ | with_reducible refine vIf_f ?_))
  (refine vCallX_of ?_; (repeat (first | simp (maxSteps := 2000000) (disch := omega) only [go_sem, ↓reduceIte] | with_reducible refine vIf_t ?_ | with_reducible refine vIf_f ?_)); refine vCall_eq (h1) (by simp (disch := omega) only [go_sem]) rfl (by first | exact Or.inl rfl | exact Or.inr ⟨rfl, rfl⟩ | (apply Or.inr; simp only [go_sem])) ?_; (repeat (first | simp (maxSteps := 2000000) (disch := omega) only [go_sem, ↓reduceIte] | with_reducible refine vIf_t ?_ | with_reducible refine vIf_f ?_)))
  refine vcLoop_invF (fun s : List Int × Int => (0 ≤ s.2 ∧ s.2 ≤ 300000) ∧ (s.1.length : Int) ≤ s.2 ∧ fwR ds L s.1 s.2 = fwR ds L [] 0) (fun s => ⟨61, 0, [(0, .sl ds.length (cGd ds)), (7, .ref 0 0 s.1.length), (8, I s.2), (1, I L)], [oI s.1]⟩) (fun s => (L - s.2).toNat) ([], 0) ⟨by simp, by simp, rfl⟩ (by (first | (refine leF_s ?_; ((repeat (first | simp (maxSteps := 2000000) (disch := omega) only [go_sem, ↓reduceIte] | with_reducible refine vIf_t ?_ | with_reducible refine vIf_f ?_)); all_goals (try simp); all_goals (try omega)); done) | (refine leF_p ?_; ((repeat (first | simp (maxSteps := 2000000) (disch := omega) only [go_sem, ↓reduceIte] | with_reducible refine vIf_t ?_ | with_reducible refine vIf_f ?_)); all_goals (try simp); all_goals (try omega)); done))) ?_
  rintro ⟨a, m⟩ ⟨hm, hlen, he⟩
  simp only at hm hlen he
  (repeat (first | simp (maxSteps := 2000000) (disch := omega) only [go_sem, ↓reduceIte] | with_reducible refine vIf_t ?_ | with_reducible refine vIf_f ?_))
  refine vIf_dec (fun c2 => ?_) (fun c2 => ?_)
  · have h3 := (gAt_ok ds m q1).fzI
    have hfa : flA ds (ixs ds.length (knB ds m)) (ixs ds.length (knB ds m)).length = rcN ds m := flA_all ds m ds.length
    have hat : ∀ j, j < (ixs ds.length (knB ds m)).length → (ixs ds.length (knB ds m)).getD j 0 = (((ixs ds.length (knB ds m)).getD j 0).toNat : Int) ∧ ((ixs ds.length (knB ds m)).getD j 0).toNat < ds.length := fun j hj => by
      obtain ⟨i, ei, hi, _⟩ := ixs_at ds.length (knB ds m) j hj
      rw [ei]; exact ⟨by omega, by omega⟩
    have hfr := flA_rng ds ds.length (knB ds m)
    have hxl := ixs_len ds.length (knB ds m)
    generalize ixs ds.length (knB ds m) = X at *
    (repeat (first | simp (maxSteps := 2000000) (disch := omega) only [go_sem, ↓reduceIte] | with_reducible refine vIf_t ?_ | with_reducible refine vIf_f ?_))
    (refine vCallX_of ?_; (repeat (first | simp (maxSteps := 2000000) (disch := omega) only [go_sem, ↓reduceIte] | with_reducible refine vIf_t ?_ | with_reducible refine vIf_f ?_)); refine vCall_eq (h3) (by simp (disch := omega) only [go_sem]) rfl (by first | exact Or.inl rfl | exact Or.inr ⟨rfl, rfl⟩ | (apply Or.inr; simp only [go_sem])) ?_; (repeat (first | simp (maxSteps := 2000000) (disch := omega) only [go_sem, ↓reduceIte] | with_reducible refine vIf_t ?_ | with_reducible refine vIf_f ?_)))
    refine vcLoop_invF (fun j : Nat => j ≤ X.length) (fun j => ⟨61, 0, [(27, I j), (9, I (flA ds X j)), (0, .sl ds.length (cGd ds)), (25, .sl X.length (ints X)), (1, I L), (7, .ref 0 0 a.length), (26, I X.length)], [oI a]⟩) (fun j => X.length - j) 0 (by omega) (by rw [flA_zero]; (first | (refine leF_s ?_; ((repeat (first | simp (maxSteps := 2000000) (disch := omega) only [go_sem, ↓reduceIte] | with_reducible refine vIf_t ?_ | with_reducible refine vIf_f ?_)); all_goals (try simp); all_goals (try omega)); done) | (refine leF_p ?_; ((repeat (first | simp (maxSteps := 2000000) (disch := omega) only [go_sem, ↓reduceIte] | with_reducible refine vIf_t ?_ | with_reducible refine vIf_f ?_)); all_goals (try simp); all_goals (try omega)); done))) ?_
    intro j hj
    have hsu := flA_succ ds X j
    have hr := hfr j hj
    generalize hb : flA ds X j = b at *
    (repeat (first | simp (maxSteps := 2000000) (disch := omega) only [go_sem, ↓reduceIte] | with_reducible refine vIf_t ?_ | with_reducible refine vIf_f ?_))
    refine vIf_dec (fun c3 => ?_) (fun c3 => ?_)
    · have ha := hat j (by omega)
      have ei : gi X j = ((X.getD j 0).toNat : Int) := ha.1
      have hi := ha.2
      have hsu := hsu (by omega)
      clear hat ha hfr hfa
      generalize (X.getD j 0).toNat = i at *
      unfold rcS at hsu
      have hgi := okG_gd q1 hi
      by_cases c4 : b < 0
      · have d4 := decide_eq_true c4
        rw [if_pos (.inl c4)] at hsu
        (repeat (first | simp (maxSteps := 2000000) (disch := omega) only [go_sem, ↓reduceIte, ei] | with_reducible refine vIf_t ?_ | with_reducible refine vIf_f ?_))
        (refine vDraw_sch 13 [(0, false), (1, false), (2, false), (3, false), (4, false), (5, false), (6, false), (7, false), (8, false), (9, false), (10, false), (11, false), (12, false)] mixed (by kernel_rfl) ?_; simp only [List.cons_append, List.nil_append, List.map_cons, List.map_nil, nthO_zero, nthO_succ, List.drop_succ_cons, List.drop_zero, List.drop_nil]; (repeat (first | simp (maxSteps := 2000000) (disch := omega) only [go_sem, ↓reduceIte] | with_reducible refine vIf_t ?_ | with_reducible refine vIf_f ?_)))
        (try (repeat (first | simp (maxSteps := 2000000) (disch := omega) only [go_sem, ↓reduceIte, d4, ei] | with_reducible refine vIf_t ?_ | with_reducible refine vIf_f ?_)))
        refine againF (j + 1) (by omega) (by omega) ?_
        rw [hsu]
        (first | (refine leF_s ?_; ((repeat (first | simp (maxSteps := 2000000) (disch := omega) only [go_sem, ↓reduceIte] | with_reducible refine vIf_t ?_ | with_reducible refine vIf_f ?_)); all_goals (try simp); all_goals (try omega)); done) | (refine leF_p ?_; ((repeat (first | simp (maxSteps := 2000000) (disch := omega) only [go_sem, ↓reduceIte] | with_reducible refine vIf_t ?_ | with_reducible refine vIf_f ?_)); all_goals (try simp); all_goals (try omega)); done))
      · have d4 := decide_eq_false c4
        have hk2 := hr.2 (by omega)
        obtain ⟨z, rfl⟩ := Int.eq_ofNat_of_zero_le (show 0 ≤ b by omega)
        rw [Int.toNat_natCast] at hk2
        unfold twA at hsu
        rw [Int.toNat_natCast] at hsu
        by_cases c5 : (gGd ds z).tw < (gGd ds i).tw
        · have d5 := decide_eq_true c5
          rw [if_pos (.inr c5)] at hsu
          (repeat (first | simp (maxSteps := 2000000) (disch := omega) only [go_sem, ↓reduceIte, ei] | with_reducible refine vIf_t ?_ | with_reducible refine vIf_f ?_))
          (refine vDraw_sch 13 [(0, false), (1, false), (2, false), (3, false), (4, false), (5, false), (6, false), (7, false), (8, false), (9, false), (10, false), (11, false), (12, false)] mixed (by kernel_rfl) ?_; simp only [List.cons_append, List.nil_append, List.map_cons, List.map_nil, nthO_zero, nthO_succ, List.drop_succ_cons, List.drop_zero, List.drop_nil]; (repeat (first | simp (maxSteps := 2000000) (disch := omega) only [go_sem, ↓reduceIte] | with_reducible refine vIf_t ?_ | with_reducible refine vIf_f ?_)))
          (try (repeat (first | simp (maxSteps := 2000000) (disch := omega) only [go_sem, ↓reduceIte, d4, d5, ei] | with_reducible refine vIf_t ?_ | with_reducible refine vIf_f ?_)))
          refine againF (j + 1) (by omega) (by omega) ?_
          rw [hsu]
          (first | (refine leF_s ?_; ((repeat (first | simp (maxSteps := 2000000) (disch := omega) only [go_sem, ↓reduceIte] | with_reducible refine vIf_t ?_ | with_reducible refine vIf_f ?_)); all_goals (try simp); all_goals (try omega)); done) | (refine leF_p ?_; ((repeat (first | simp (maxSteps := 2000000) (disch := omega) only [go_sem, ↓reduceIte] | with_reducible refine vIf_t ?_ | with_reducible refine vIf_f ?_)); all_goals (try simp); all_goals (try omega)); done))
        · have d5 := decide_eq_false c5
          rw [if_neg (by omega)] at hsu
          (repeat (first | simp (maxSteps := 2000000) (disch := omega) only [go_sem, ↓reduceIte, ei] | with_reducible refine vIf_t ?_ | with_reducible refine vIf_f ?_))
          (refine vDraw_sch 13 [(0, false), (1, false), (2, false), (3, false), (4, false), (5, false), (6, false), (7, false), (8, false), (9, false), (10, false), (11, false), (12, false)] mixed (by kernel_rfl) ?_; simp only [List.cons_append, List.nil_append, List.map_cons, List.map_nil, nthO_zero, nthO_succ, List.drop_succ_cons, List.drop_zero, List.drop_nil]; (repeat (first | simp (maxSteps := 2000000) (disch := omega) only [go_sem, ↓reduceIte] | with_reducible refine vIf_t ?_ | with_reducible refine vIf_f ?_)))
          (try (repeat (first | simp (maxSteps := 2000000) (disch := omega) only [go_sem, ↓reduceIte, d4, d5, ei] | with_reducible refine vIf_t ?_ | with_reducible refine vIf_f ?_)))
          refine againF (j + 1) (by omega) (by omega) ?_
          rw [hsu]
          (first | (refine leF_s ?_; ((repeat (first | simp (maxSteps := 2000000) (disch := omega) only [go_sem, ↓reduceIte] | with_reducible refine vIf_t ?_ | with_reducible refine vIf_f ?_)); all_goals (try simp); all_goals (try omega)); done) | (refine leF_p ?_; ((repeat (first | simp (maxSteps := 2000000) (disch := omega) only [go_sem, ↓reduceIte] | with_reducible refine vIf_t ?_ | with_reducible refine vIf_f ?_)); all_goals (try simp); all_goals (try omega)); done))
    · have ej : j = X.length := by omega
      subst ej
      rw [hfa] at hb
      subst hb
      by_cases c4 : 0 ≤ rcN ds m
      · have w := rcN_tw c4
        have hb := okG_gd q1 w.2.2
        rw [fwR_go c2 c4] at he
        unfold twA at he w
        generalize rcN ds m = b at *
        obtain ⟨z, rfl⟩ := Int.eq_ofNat_of_zero_le c4
        rw [Int.toNat_natCast] at w hb he
        (repeat (first | simp (maxSteps := 2000000) (disch := omega) only [go_sem, ↓reduceIte] | with_reducible refine vIf_t ?_ | with_reducible refine vIf_f ?_))
        refine againF (a ++ [(z : Int)], (gGd ds z).tw) ⟨by simp only; omega, by simp only [List.length_append, List.length_singleton]; omega, he⟩ (by simp only; omega) (by (first | (refine leF_s ?_; ((repeat (first | simp (maxSteps := 2000000) (disch := omega) only [go_sem, ↓reduceIte] | with_reducible refine vIf_t ?_ | with_reducible refine vIf_f ?_)); all_goals (try simp); all_goals (try omega)); done) | (refine leF_p ?_; ((repeat (first | simp (maxSteps := 2000000) (disch := omega) only [go_sem, ↓reduceIte] | with_reducible refine vIf_t ?_ | with_reducible refine vIf_f ?_)); all_goals (try simp); all_goals (try omega)); done)))
      · rw [fwR_no c2 (by omega)] at he
        have c5 : rcN ds m < 0 := by omega
        (repeat (first | simp (maxSteps := 2000000) (disch := omega) only [go_sem, ↓reduceIte] | with_reducible refine vIf_t ?_ | with_reducible refine vIf_f ?_))
        (refine retK_of ?_; (repeat (first | simp (maxSteps := 2000000) (disch := omega) only [go_sem, ↓reduceIte] | with_reducible refine vIf_t ?_ | with_reducible refine vIf_f ?_)))
        exact .inl ⟨by rw [e2, e, ← he]; rfl, by rw [e2, ← he]; rfl⟩
  · rw [fwR_end c2] at he
    (repeat (first | simp (maxSteps := 2000000) (disch := omega) only [go_sem, ↓reduceIte] | with_reducible refine vIf_t ?_ | with_reducible refine vIf_f ?_))
    (refine retK_of ?_; (repeat (first | simp (maxSteps := 2000000) (disch := omega) only [go_sem, ↓reduceIte] | with_reducible refine vIf_t ?_ | with_reducible refine vIf_f ?_)))
    exact .inl ⟨by rw [e2, e, ← he], by rw [e2, ← he]; rfl⟩

end Go.Proofs.YtfhckmlmfigfjaaGreatDoor

/- dikes: places, cut and joined ones (plain) -/
import Derived.Test.YtcmkkejcnomcdaaDik1
import Derived.Test.YtcmkkejcnomcdaaIxs
set_option linter.unusedVariables false
set_option linter.unusedSimpArgs false
namespace Go.Proofs.Ytcmkkejcnomcdaa
open Go.AG

/-- the length of the first sections -/
def lnK (ds : List Sct) : Nat → Int
  | 0 => 0
  | k + 1 => lnK ds k + (gSct ds k).ln
theorem lnK_bd {ds : List Sct} (f : DkF ds) : ∀ k, k ≤ ds.length → (k : Int) ≤ lnK ds k ∧ lnK ds k ≤ 10000 * k := by
  intro k
  induction k with
  | zero => intro _; simp [lnK]
  | succ k ih =>
    intro h
    have h1 := ih (by omega)
    have h2 := f.l k (by omega)
    simp only [lnK]
    omega
theorem lnK_mono {ds : List Sct} (h : ∀ i, i < ds.length → 1 ≤ (gSct ds i).ln) : ∀ {j k : Nat}, j ≤ k → k ≤ ds.length → lnK ds j ≤ lnK ds k := by
  intro j k hjk
  induction k with
  | zero => intro _; rw [show j = 0 by omega]; exact Int.le_refl _
  | succ k ih =>
    intro hk
    by_cases e : j = k + 1
    · subst e; exact Int.le_refl _
    · have h1 := ih (by omega) (by omega)
      have h2 := h k (by omega)
      simp only [lnK]
      omega
theorem lnK_app_l (xs ys : List Sct) : ∀ k, k ≤ xs.length → lnK (xs ++ ys) k = lnK xs k := by
  intro k
  induction k with
  | zero => intro _; rfl
  | succ k ih => intro h; simp only [lnK]; rw [ih (by omega), gSct_app_l _ _ _ (by omega)]
theorem lnK_snoc (xs : List Sct) (s : Sct) : lnK (xs ++ [s]) (xs ++ [s]).length = lnK xs xs.length + s.ln := by
  have e : gSct (xs ++ [s]) xs.length = s := by rw [gSct_app_r _ _ _ (Nat.le_refl _), Nat.sub_self]; rfl
  rw [show (xs ++ [s]).length = xs.length + 1 by simp]
  simp only [lnK]
  rw [lnK_app_l xs [s] xs.length (Nat.le_refl _), e]
/-- where a metre lies -/
structure SAt (ds : List Sct) (m : Int) (k : Nat) : Prop where
  i : k < ds.length
  l : lnK ds k ≤ m
  u : m < lnK ds (k + 1)
theorem SAt.uniq {ds : List Sct} (h : ∀ i, i < ds.length → 1 ≤ (gSct ds i).ln) {m : Int} {j k : Nat} (hj : SAt ds m j) (hk : SAt ds m k) : j = k := by
  obtain ⟨a1, a2, a3⟩ := hj
  obtain ⟨b1, b2, b3⟩ := hk
  by_cases h1 : j < k
  · have := lnK_mono h (show j + 1 ≤ k by omega) (by omega); omega
  · by_cases h2 : k < j
    · have := lnK_mono h (show k + 1 ≤ j by omega) (by omega); omega
    · omega
theorem SAt.ex {ds : List Sct} : ∀ n, n ≤ ds.length → ∀ {m : Int}, 0 ≤ m → m < lnK ds n → ∃ k, SAt ds m k := by
  intro n
  induction n with
  | zero => intro _ m h0 h; simp [lnK] at h; omega
  | succ n ih =>
    intro hn m h0 h
    by_cases h1 : m < lnK ds n
    · exact ih (by omega) h0 h1
    · exact ⟨n, by omega, by omega, h⟩
/-- the crest at a metre -/
def CrAt (ds : List Sct) (m c : Int) : Prop := ∃ k, SAt ds m k ∧ (gSct ds k).cr = c
theorem CrAt.snoc {xs : List Sct} {s : Sct} {m c : Int} (h : CrAt xs m c) : CrAt (xs ++ [s]) m c := by
  obtain ⟨k, ⟨h1, h2, h3⟩, h4⟩ := h
  refine ⟨k, ⟨by simp; omega, ?_, ?_⟩, ?_⟩
  · rw [lnK_app_l _ _ _ (by omega)]; exact h2
  · rw [lnK_app_l _ _ _ (by omega)]; exact h3
  · rw [gSct_app_l _ _ _ h1]; exact h4
theorem CrAt.last {xs : List Sct} {s : Sct} {m : Int} (h1 : lnK xs xs.length ≤ m) (h2 : m < lnK xs xs.length + s.ln) : CrAt (xs ++ [s]) m s.cr := by
  have e : gSct (xs ++ [s]) xs.length = s := by rw [gSct_app_r _ _ _ (Nat.le_refl _), Nat.sub_self]; rfl
  refine ⟨xs.length, ⟨by simp, ?_, ?_⟩, by rw [e]⟩
  · rw [lnK_app_l _ _ _ (Nat.le_refl _)]; exact h1
  · have := lnK_snoc xs s
    rw [show (xs ++ [s]).length = xs.length + 1 by simp] at this
    rw [this]; exact h2
/-- what holds of all that is made of a dike's sections -/
structure SecF (ds : List Sct) (b : Nat) : Prop where
  n : ds.length ≤ b
  l : ∀ i, i < ds.length → 1 ≤ (gSct ds i).ln ∧ (gSct ds i).ln ≤ 10000
  c : ∀ i, i < ds.length → -2000 ≤ (gSct ds i).cr ∧ (gSct ds i).cr ≤ 2000
theorem SecF.nil (b : Nat) : SecF [] b := ⟨by simp, fun i h => absurd h (by simp), fun i h => absurd h (by simp)⟩
theorem SecF.snoc {ds : List Sct} {b : Nat} (h : SecF ds b) {s : Sct} (hl : 1 ≤ s.ln ∧ s.ln ≤ 10000) (hc : -2000 ≤ s.cr ∧ s.cr ≤ 2000) : SecF (ds ++ [s]) (b + 1) := by
  obtain ⟨h1, h2, h3⟩ := h
  have e : gSct (ds ++ [s]) ds.length = s := by rw [gSct_app_r _ _ _ (Nat.le_refl _), Nat.sub_self]; rfl
  refine ⟨by simp; omega, fun i hi => ?_, fun i hi => ?_⟩
  all_goals
    simp only [List.length_append, List.length_singleton] at hi
    by_cases hx : i < ds.length
    · rw [gSct_app_l _ _ _ hx]; first | exact h2 i hx | exact h3 i hx
    · rw [show i = ds.length by omega, e]; assumption
theorem SecF.mono {ds : List Sct} {a b : Nat} (h : SecF ds a) (hab : a ≤ b) : SecF ds b := ⟨by have := h.n; omega, h.l, h.c⟩
theorem SecF.pos {ds : List Sct} {b : Nat} (h : SecF ds b) : ∀ k, k ≤ ds.length → (k : Int) ≤ lnK ds k := by
  intro k
  induction k with
  | zero => intro _; simp [lnK]
  | succ k ih => intro hk; have h1 := ih (by omega); have h2 := (h.l k (by omega)).1; simp only [lnK]; omega
theorem SecF.dk {ds : List Sct} (h : SecF ds 30) (h1 : 1 ≤ ds.length) : DkF ds := ⟨⟨h1, h.n⟩, h.l, h.c⟩
/-! a dike cut -/
/-- what is left of the metres -/
def cuL (ds : List Sct) (m : Int) (k : Nat) : Int := if lnK ds k < m then m - lnK ds k else 0
def cuN (ds : List Sct) (m : Int) (k : Nat) : Int := if (gSct ds k).ln < cuL ds m k then (gSct ds k).ln else cuL ds m k
def cuA (ds : List Sct) (m : Int) : Nat → List Sct
  | 0 => []
  | k + 1 => if 0 < cuN ds m k then cuA ds m k ++ [⟨cuN ds m k, (gSct ds k).cr⟩] else cuA ds m k
def cuB (ds : List Sct) (m : Int) : Nat → List Sct
  | 0 => []
  | k + 1 => if cuN ds m k < (gSct ds k).ln then cuB ds m k ++ [⟨(gSct ds k).ln - cuN ds m k, (gSct ds k).cr⟩] else cuB ds m k
theorem cuL_c (ds : List Sct) (m : Int) (k : Nat) : (lnK ds k < m ∧ cuL ds m k = m - lnK ds k) ∨ (m ≤ lnK ds k ∧ cuL ds m k = 0) := by
  unfold cuL; split <;> omega
theorem cuN_c (ds : List Sct) (m : Int) (k : Nat) : ((gSct ds k).ln < cuL ds m k ∧ cuN ds m k = (gSct ds k).ln) ∨ (cuL ds m k ≤ (gSct ds k).ln ∧ cuN ds m k = cuL ds m k) := by
  unfold cuN; split <;> omega
theorem lnK_s (ds : List Sct) (k : Nat) : lnK ds (k + 1) = lnK ds k + (gSct ds k).ln := rfl
theorem cuL_next {ds : List Sct} (f : DkF ds) (m : Int) (k : Nat) (hk : k < ds.length) : cuL ds m (k + 1) = cuL ds m k - cuN ds m k := by
  have := f.l k hk
  have h1 := cuL_c ds m k
  have h2 := cuN_c ds m k
  have h3 := cuL_c ds m (k + 1)
  have h4 := lnK_s ds k
  omega
theorem cu_bd {ds : List Sct} (f : DkF ds) (m : Int) (hm : 0 ≤ m) (k : Nat) (hk : k < ds.length) : (0 ≤ cuL ds m k ∧ cuL ds m k ≤ m) ∧ (0 ≤ cuN ds m k ∧ cuN ds m k ≤ (gSct ds k).ln) := by
  have h0 := lnK_bd f k (by omega)
  have := f.l k hk
  have h1 := cuL_c ds m k
  have h2 := cuN_c ds m k
  omega
theorem cu_ok {ds : List Sct} (f : DkF ds) (m : Int) (hm : 0 ≤ m) : ∀ k, k ≤ ds.length → SecF (cuA ds m k) k ∧ SecF (cuB ds m k) k ∧ lnK (cuA ds m k) (cuA ds m k).length = m - cuL ds m k ∧ lnK (cuB ds m k) (cuB ds m k).length = lnK ds k - (m - cuL ds m k) := by
  intro k
  induction k with
  | zero =>
    intro _
    have h1 := cuL_c ds m 0
    have h2 : lnK ds 0 = 0 := rfl
    refine ⟨SecF.nil 0, SecF.nil 0, ?_, ?_⟩ <;> simp only [cuA, cuB, List.length_nil] <;> (show lnK [] 0 = _) <;> (rw [show lnK [] 0 = 0 from rfl]) <;> omega
  | succ k ih =>
    intro hk
    obtain ⟨a, b, c, d⟩ := ih (by omega)
    have hb := cu_bd f m hm k (by omega)
    have hl := f.l k (by omega)
    have hc := f.c k (by omega)
    have hn := cuL_next f m k (by omega)
    refine ⟨?_, ?_, ?_, ?_⟩
    · simp only [cuA]; split
      · exact a.snoc (by simp only; omega) hc
      · exact a.mono (by omega)
    · simp only [cuB]; split
      · exact b.snoc (by simp only; omega) hc
      · exact b.mono (by omega)
    · simp only [cuA]; split
      · rw [lnK_snoc]; simp only; omega
      · omega
    · simp only [cuB, lnK]; split
      · rw [lnK_snoc]; simp only; omega
      · omega
theorem cu_end {ds : List Sct} (f : DkF ds) (m : Int) (hm : 1 ≤ m ∧ m ≤ lnK ds ds.length - 1) : DkF (cuA ds m ds.length) ∧ DkF (cuB ds m ds.length) ∧ lnK (cuA ds m ds.length) (cuA ds m ds.length).length = m ∧ lnK (cuB ds m ds.length) (cuB ds m ds.length).length = lnK ds ds.length - m := by
  obtain ⟨a, b, c, d⟩ := cu_ok f m (by omega) ds.length (Nat.le_refl _)
  have e : cuL ds m ds.length = 0 := by unfold cuL; rw [if_neg (by omega)]
  rw [e] at c d
  have n := f.n
  refine ⟨(a.mono n.2).dk ?_, (b.mono n.2).dk ?_, by omega, by omega⟩
  · cases h : cuA ds m ds.length with
    | nil => rw [h] at c; simp [lnK] at c; omega
    | cons x r => simp
  · cases h : cuB ds m ds.length with
    | nil => rw [h] at d; simp [lnK] at d; omega
    | cons x r => simp
/-! sections joined -/
def joB (a : List Sct) (s : Sct) : Bool := decide (0 < a.length) && (decide ((gSct a (a.length - 1)).cr = s.cr) && decide ((gSct a (a.length - 1)).ln + s.ln ≤ 10000))
def joS (a : List Sct) (s : Sct) : List Sct := if joB a s = true then a.set (a.length - 1) ⟨(gSct a (a.length - 1)).ln + s.ln, (gSct a (a.length - 1)).cr⟩ else a ++ [s]
def joK (ds : List Sct) : Nat → List Sct
  | 0 => []
  | k + 1 => joS (joK ds k) (gSct ds k)
theorem lnK_set (xs : List Sct) (s : Sct) (j : Nat) : ∀ k, k ≤ j → lnK (xs.set j s) k = lnK xs k := by
  intro k
  induction k with
  | zero => intro _; rfl
  | succ k ih => intro h; simp only [lnK]; rw [ih (by omega), gSct_set_ne _ _ _ _ (by omega)]
theorem jo_ok {ds : List Sct} (f : DkF ds) : ∀ k, k ≤ ds.length → SecF (joK ds k) k ∧ (1 ≤ k → 1 ≤ (joK ds k).length) ∧ lnK (joK ds k) (joK ds k).length = lnK ds k ∧ ∀ i, i < k → ∀ m, lnK ds i ≤ m → m < lnK ds (i + 1) → CrAt (joK ds k) m (gSct ds i).cr := by
  intro k
  induction k with
  | zero => intro _; exact ⟨SecF.nil 0, fun h => absurd h (by omega), rfl, fun i h => absurd h (by omega)⟩
  | succ k ih =>
    intro hk
    obtain ⟨a, b, c, d⟩ := ih (by omega)
    have hl := f.l k (by omega)
    have hc := f.c k (by omega)
    simp only [joK]
    generalize joK ds k = xs at a b c d
    generalize hs : gSct ds k = s at hl hc
    unfold joS
    split
    · rename_i hj
      simp only [joB, Bool.and_eq_true, decide_eq_true_eq] at hj
      obtain ⟨j1, j2, j3⟩ := hj
      generalize hy : xs.length - 1 = y at j2 j3
      have hyl : y < xs.length := by omega
      have hxl : xs.length = y + 1 := by omega
      have al := a.l y hyl
      have ac := a.c y hyl
      have e1 : gSct (xs.set y ⟨(gSct xs y).ln + s.ln, (gSct xs y).cr⟩) y = ⟨(gSct xs y).ln + s.ln, (gSct xs y).cr⟩ := gSct_set_same _ _ _ hyl
      have e2 : ∀ i, i ≠ y → gSct (xs.set y ⟨(gSct xs y).ln + s.ln, (gSct xs y).cr⟩) i = gSct xs i := fun i hi => gSct_set_ne _ _ _ _ (Ne.symm hi)
      have e3 : lnK (xs.set y ⟨(gSct xs y).ln + s.ln, (gSct xs y).cr⟩) (y + 1) = lnK xs (y + 1) + s.ln := by
        simp only [lnK]; rw [lnK_set _ _ _ _ (Nat.le_refl _), e1]; simp only; omega
      rw [hxl] at c
      have hst : (xs.set y ⟨(gSct xs y).ln + s.ln, (gSct xs y).cr⟩).length = y + 1 := by simp [hxl]
      refine ⟨⟨by simp; have := a.n; omega, fun i hi => ?_, fun i hi => ?_⟩, fun _ => by rw [hst]; omega, ?_, fun i hi m h1 h2 => ?_⟩
      · by_cases e : i = y
        · subst e; rw [e1]; simp only; omega
        · rw [e2 i e]; exact a.l i (by simp at hi; omega)
      · by_cases e : i = y
        · subst e; rw [e1]; exact ac
        · rw [e2 i e]; exact a.c i (by simp at hi; omega)
      · rw [hst, e3, c]; simp only [lnK]; rw [hs]
      · by_cases hik : i < k
        · obtain ⟨j, ⟨q1, q2, q3⟩, q4⟩ := d i hik m h1 h2
          by_cases e : j = y
          · subst e
            refine ⟨j, ⟨by rw [hst]; omega, ?_, ?_⟩, by rw [e1]; exact q4⟩
            · rw [lnK_set _ _ _ _ (Nat.le_refl _)]; exact q2
            · rw [e3]; omega
          · refine ⟨j, ⟨by rw [hst]; omega, ?_, ?_⟩, by rw [e2 j e]; exact q4⟩
            · rw [lnK_set _ _ _ _ (by omega)]; exact q2
            · rw [lnK_set _ _ _ _ (by omega)]; exact q3
        · have ei : i = k := by omega
          subst ei
          have h2' : m < lnK ds i + s.ln := by simp only [lnK] at h2; rw [hs] at h2; exact h2
          refine ⟨y, ⟨by rw [hst]; omega, ?_, ?_⟩, by rw [e1, hs]; exact j2⟩
          · rw [lnK_set _ _ _ _ (Nat.le_refl _)]; simp only [lnK] at c; omega
          · rw [e3]; omega
    · refine ⟨a.snoc hl hc, fun _ => by simp, ?_, fun i hi m h1 h2 => ?_⟩
      · rw [lnK_snoc, c]; simp only [lnK]; rw [hs]
      · by_cases hik : i < k
        · exact (d i hik m h1 h2).snoc
        · have ei : i = k := by omega
          subst ei
          have h2' : m < lnK ds i + s.ln := by simp only [lnK] at h2; rw [hs] at h2; exact h2
          rw [hs]
          exact CrAt.last (by omega) (by omega)
/-! what overflows -/
def ovK (ds : List Sct) (v : Int) : Nat → Int
  | 0 => 0
  | k + 1 => if (gSct ds k).cr < v then ovK ds v k + (gSct ds k).ln else ovK ds v k
theorem ovK_bd {ds : List Sct} (f : DkF ds) (v : Int) : ∀ k, k ≤ ds.length → 0 ≤ ovK ds v k ∧ ovK ds v k ≤ 10000 * k := by
  intro k
  induction k with
  | zero => intro _; simp [ovK]
  | succ k ih =>
    intro h
    have h1 := ih (by omega)
    have h2 := f.l k (by omega)
    simp only [ovK]
    split <;> omega
/-- the lengths of some sections -/
def luK (ds : List Sct) (l : List Int) : Int := (l.map fun i => (gSct ds i.toNat).ln).sum
theorem luK_snoc (ds : List Sct) (l : List Int) (i : Int) : luK ds (l ++ [i]) = luK ds l + (gSct ds i.toNat).ln := by simp [luK]
def wkq (ds : List Sct) (v least : Int) (i : Nat) : Bool := decide ((gSct ds i).cr - v < least)
theorem lu_ov (ds : List Sct) (v : Int) : ∀ k, luK ds (ixs k (wkq ds v 0)) = ovK ds v k := by
  intro k
  induction k with
  | zero => simp [ixs_zero, luK, ovK]
  | succ k ih =>
    by_cases h : (gSct ds k).cr < v
    · have e : wkq ds v 0 k = true := by unfold wkq; rw [decide_eq_true_eq]; omega
      rw [ixs_yes e, luK_snoc, ih]; simp only [ovK, if_pos h, Int.toNat_natCast]
    · have e : wkq ds v 0 k = false := by unfold wkq; rw [decide_eq_false_iff_not]; omega
      rw [ixs_no e, ih]; simp only [ovK, if_neg h]
theorem ixs_in {n : Nat} {q : Nat → Bool} {x : Int} (h : x ∈ ixs n q) : 0 ≤ x ∧ x < n := by
  simp only [ixs, List.mem_map, List.mem_filter, List.mem_range] at h
  obtain ⟨i, ⟨h1, _⟩, rfl⟩ := h
  omega
theorem luK_take (ds : List Sct) (l : List Int) (k : Nat) (h : k < l.length) : luK ds (l.take (k + 1)) = luK ds (l.take k) + (gSct ds (gi l k).toNat).ln := by
  rw [take_succ_gi _ _ h, luK_snoc]
theorem luK_bd {ds : List Sct} (f : DkF ds) : ∀ l : List Int, (∀ x ∈ l, 0 ≤ x ∧ x < ds.length) → 0 ≤ luK ds l ∧ luK ds l ≤ 10000 * l.length := by
  intro l
  induction l with
  | nil => intro _; simp [luK]
  | cons x r ih =>
    intro h
    have h1 := ih (fun y hy => h y (by simp [hy]))
    have h2 := h x (by simp)
    have h3 := f.l x.toNat (by omega)
    have e : luK ds (x :: r) = (gSct ds x.toNat).ln + luK ds r := by simp [luK]
    rw [e]; simp only [List.length_cons]; omega
end Go.Proofs.Ytcmkkejcnomcdaa

/- awards: the greedy one is faultless; the bound (plain) -/
import Derived.Test.YthgdbhmdcokbdaaAw2
set_option linter.unusedVariables false
set_option linter.unusedSimpArgs false
namespace Go.Proofs.Ythgdbhmdcokbdaa
open Go.AG

/-- a bid is found -/
theorem ix_of {t : Td} (b : Nat) (hb : b < t.bids.length) : 0 ≤ fstI (isB (gBd t.bids b).who (gBd t.bids b).lot) t.bids := by
  rcases fstI_cases (isB (gBd t.bids b).who (gBd t.bids b).lot) t.bids with ⟨_, h⟩ | ⟨k, e, _⟩
  · have h : isB (gBd t.bids b).who (gBd t.bids b).lot (gBd t.bids b) = false := h b hb
    simp [isB] at h
  · omega
structure GF (t : Td) (g : Gs) : Prop where
  cnt : ∀ j : Nat, j < t.most.length → gi g.lf j + cntI j g.ch = gi t.most j
  bid : ∀ k, k < g.ch.length → 0 ≤ gi g.ch k → 0 ≤ fstI (isB (gi g.ch k) (k : Int)) t.bids
theorem cntI_set (x y : Int) (xs : List Int) (k : Nat) (hk : k < xs.length) (hx : gi xs k ≠ x) : cntI x (xs.set k y) = cntI x xs + (if y = x then 1 else 0) := by
  unfold cntI
  rw [List.count_set hk]
  rw [gi_lt _ _ hk] at hx
  simp only [beq_iff_eq]
  rw [if_neg hx]
  split <;> simp
theorem gf_step {t : Td} (hok : okT t = true) {g : Gs} (h : GI t g) (hf : GF t g) (hb : ¬ gbest t g < 0) : GF t (gstep t g (gbest t g).toNat) := by
  obtain ⟨b1, b2, b3, b4⟩ := gbest_bd t g hb
  have hbd := okT_b hok _ b1
  have hix := ix_of (t := t) _ b1
  have hlc := h.lc
  have hll := h.ll
  generalize (gbest t g).toNat = b at b1 b3 b4 hbd hix ⊢
  have hlot : (gBd t.bids b).lot.toNat < g.ch.length := by omega
  have hwho : (gBd t.bids b).who.toNat < t.most.length := by omega
  refine ⟨fun j hj => ?_, fun k hk hn => ?_⟩
  · simp only [gstep]
    rw [cntI_set _ _ _ _ hlot (by omega)]
    have hc := hf.cnt j hj
    by_cases e : (gBd t.bids b).who.toNat = j
    · rw [e, gi_set_same _ _ _ (by omega), if_pos (by omega)]; omega
    · rw [gi_set_ne _ _ _ _ e, if_neg (by omega)]; omega
  · simp only [gstep, List.length_set] at hk hn ⊢
    by_cases e : (gBd t.bids b).lot.toNat = k
    · rw [e, gi_set_same _ _ _ hk]
      rw [show ((k : Nat) : Int) = (gBd t.bids b).lot by omega]
      exact hix
    · rw [gi_set_ne _ _ _ _ e] at hn ⊢
      exact hf.bid k hk hn
theorem gf_ok {t : Td} (hok : okT t = true) : ∀ k, GF t (gst t k) := by
  intro k
  induction k with
  | zero =>
    refine ⟨fun j hj => ?_, fun k hk hn => ?_⟩
    · simp only [gst, cntI, List.count_replicate]
      rw [if_neg (by simp)]; simp
    · simp only [gst, List.length_replicate] at hk hn
      rw [gi_lt _ _ (by simpa using hk)] at hn
      simp at hn
  | succ k ih =>
    simp only [gst]; split
    · exact ih
    · rename_i hb; exact gf_step hok (gst_ok hok k).1 ih hb
theorem neg0_get {g : Gs} (h : neg g = 0) (k : Nat) (hk : k < g.ch.length) : 0 ≤ gi g.ch k := by
  unfold neg at h
  rw [List.countP_eq_zero] at h
  have := h _ (List.getElem_mem hk)
  rw [gi_lt _ _ hk]
  simpa using this
/-- the greedy award has no fault -/
theorem gr_Fl {t : Td} (hok : okT t = true) (h : grC t = 0) : Fl t (grR t) := by
  have h0 : neg (gst t t.lots.toNat) = 0 := by
    by_cases h2 : neg (gst t t.lots.toNat) = 0
    · exact h2
    · rw [(grC_3 hok h2).1] at h; cases h
  rw [(grC_0 hok h0).2]
  have hg := (gst_ok hok t.lots.toNat).1
  have hf := gf_ok hok t.lots.toNat
  refine ⟨hg.lc, fun k hk => hf.bid k hk (neg0_get h0 k hk), fun j hj => ?_⟩
  have := hf.cnt j hj
  have := hg.l j hj
  omega
/-- the least offer for a lot -/
theorem bst_le {bs : List Bd} {lot : Int} {i : Nat} (h1 : (gBd bs i).lot = lot) : ∀ k, i < k → 0 ≤ bst bs lot (-1) k ∧ (gBd bs (bst bs lot (-1) k).toNat).off ≤ (gBd bs i).off := by
  intro k
  induction k with
  | zero => intro h; omega
  | succ k ih =>
    intro h
    by_cases hk : i < k
    · obtain ⟨i1, i2⟩ := ih hk
      simp only [bst]; split
      · rename_i hc
        simp only [bstC, decide_eq_true_eq] at hc
        refine ⟨by omega, ?_⟩
        rw [Int.toNat_natCast]; omega
      · exact ⟨i1, i2⟩
    · have : i = k := by omega
      subst this
      simp only [bst]; split
      · exact ⟨by omega, by rw [Int.toNat_natCast]; omega⟩
      · rename_i hc
        simp only [bstC, decide_eq_true_eq, h1, true_and] at hc
        omega
def lowB (t : Td) (lot : Nat) : Int := bst t.bids lot (-1) t.bids.length
/-- the sum of the least offers for the first lots -/
def lowK (t : Td) : Nat → Int
  | 0 => 0
  | k + 1 => lowK t k + (gBd t.bids (lowB t k).toNat).off
theorem low_bid {t : Td} (hok : okT t = true) {w : Int} {lot : Nat} (h : 0 ≤ fstI (isB w lot) t.bids) : 0 ≤ lowB t lot ∧ (gBd t.bids (lowB t lot).toNat).off ≤ offI t w lot := by
  rcases fstI_cases (isB w (lot : Int)) t.bids with ⟨e, _⟩ | ⟨k, e, hk, h2, _⟩
  · omega
  · have h2 : isB w (lot : Int) (gBd t.bids k) = true := h2
    simp only [isB, Bool.and_eq_true, decide_eq_true_eq] at h2
    have := bst_le (bs := t.bids) (lot := (lot : Int)) h2.2 t.bids.length hk
    refine ⟨this.1, ?_⟩
    unfold offI
    rw [e, Int.toNat_natCast]
    exact this.2
theorem low_cst {t : Td} (hok : okT t = true) {aw : List Int} (hf : Fl t aw) : ∀ k, k ≤ aw.length → lowK t k ≤ cstK t aw k := by
  intro k
  induction k with
  | zero => intro _; simp [lowK, cstK]
  | succ k ih =>
    intro hk
    have h1 := ih (by omega)
    have h2 := (low_bid hok (hf.bid k (by omega))).2
    simp only [lowK, cstK]
    omega
/-- the bound's code: OK if each lot has a bid -/
def loB (t : Td) : Bool := allB t.lots.toNat fun k => decide (0 ≤ lowB t k)
theorem loB_Fl {t : Td} (hok : okT t = true) {aw : List Int} (hf : Fl t aw) : loB t = true :=
  allB_yes fun k hk => decide_eq_true (low_bid hok (hf.bid k (by rw [hf.len]; exact hk))).1

/-- a lot with a fault -/
def badB (t : Td) (aw : List Int) (k : Nat) : Bool := decide (fstI (isB (gi aw k) (k : Int)) t.bids < 0) || decide (gi t.most (gi aw k).toNat < cntI (gi aw k) (aw.take k) + 1)
/-- the first lot with a fault -/
def fltF (t : Td) (aw : List Int) : Nat → Nat → Int
  | _, 0 => -1
  | k, d + 1 => if badB t aw k = true then (k : Int) else fltF t aw (k + 1) d
def flt (t : Td) (aw : List Int) : Int := fltF t aw 0 aw.length
theorem fltF_at {t : Td} {aw : List Int} : ∀ (d k j : Nat), (∀ i, k ≤ i → i < j → badB t aw i = false) → k ≤ j → j < k + d → badB t aw j = true → fltF t aw k d = j := by
  intro d
  induction d with
  | zero => intro k j _ _ h; omega
  | succ d ih =>
    intro k j h1 h2 h3 h4
    simp only [fltF]
    by_cases e : k = j
    · subst e; rw [if_pos h4]
    · rw [if_neg (by rw [h1 k (Nat.le_refl _) (by omega)]; simp)]
      exact ih (k + 1) j (fun i hi hi2 => h1 i (by omega) hi2) (by omega) (by omega) h4
theorem fltF_no {t : Td} {aw : List Int} : ∀ (d k : Nat), (∀ i, k ≤ i → i < k + d → badB t aw i = false) → fltF t aw k d = -1 := by
  intro d
  induction d with
  | zero => intro k _; rfl
  | succ d ih =>
    intro k h
    simp only [fltF]
    rw [if_neg (by rw [h k (Nat.le_refl _) (by omega)]; simp)]
    exact ih (k + 1) (fun i hi hi2 => h i (by omega) (by omega))
theorem flt_at {t : Td} {aw : List Int} (j : Nat) (h1 : ∀ i, i < j → badB t aw i = false) (h2 : j < aw.length) (h3 : badB t aw j = true) : flt t aw = j :=
  fltF_at aw.length 0 j (fun i _ hi => h1 i hi) (by omega) (by omega) h3
theorem flt_no {t : Td} {aw : List Int} (h : ∀ i, i < aw.length → badB t aw i = false) : flt t aw = -1 := fltF_no aw.length 0 (fun i _ hi => h i (by omega))
theorem flt_neg {t : Td} {aw : List Int} (h : flt t aw < 0) : ∀ i, i < aw.length → badB t aw i = false := by
  have : ∀ (d k : Nat), fltF t aw k d < 0 → ∀ i, k ≤ i → i < k + d → badB t aw i = false := by
    intro d
    induction d with
    | zero => intro k _ i h1 h2; omega
    | succ d ih =>
      intro k h i h1 h2
      simp only [fltF] at h
      split at h
      · omega
      · rename_i hb
        by_cases e : i = k
        · subst e; simpa using hb
        · exact ih (k + 1) h i (by omega) (by omega)
  exact fun i hi => this aw.length 0 h i (by omega) (by omega)
theorem take_snoc (aw : List Int) (k : Nat) (h : k < aw.length) : aw.take (k + 1) = aw.take k ++ [gi aw k] := by
  rw [List.take_add_one, gi_lt _ _ h, List.getElem?_eq_getElem h]; rfl
/-- an award without a fault, by its counts -/
theorem flt_Fl {t : Td} (hok : okT t = true) {aw : List Int} (hl : aw.length = t.lots.toNat) (h : flt t aw < 0) : Fl t aw := by
  have hb := flt_neg h
  have htb := okT_t hok
  have hbid : ∀ k, k < aw.length → 0 ≤ fstI (isB (gi aw k) (k : Int)) t.bids := fun k hk => by
    have := hb k hk
    simp only [badB, Bool.or_eq_false_iff, decide_eq_false_iff_not] at this
    omega
  refine ⟨hl, hbid, fun j hj => ?_⟩
  have : ∀ k, k ≤ aw.length → cntI j (aw.take k) ≤ gi t.most j := by
    intro k
    induction k with
    | zero => intro _; have := htb.2.2 j hj; simp only [cntI, List.take_zero, List.count_nil]; omega
    | succ k ih =>
      intro hk
      rw [take_snoc _ _ (by omega), cntI_snoc]
      split
      · rename_i e
        have := hb k (by omega)
        simp only [badB, Bool.or_eq_false_iff, decide_eq_false_iff_not, e, Int.toNat_natCast] at this
        omega
      · have := ih (by omega); omega
  have h2 := this aw.length (Nat.le_refl _)
  rwa [List.take_length] at h2
theorem Fl_flt {t : Td} (hok : okT t = true) {aw : List Int} (hf : Fl t aw) : flt t aw = -1 := by
  refine flt_no fun k hk => ?_
  have hb := hf.bid k hk
  have hw := ix_who hok hb
  have hm := hf.most (gi aw k).toNat (by omega)
  rw [show (((gi aw k).toNat : Nat) : Int) = gi aw k by omega] at hm
  have hc := cntI_le (gi aw k) (aw.take (k + 1)) (aw.drop (k + 1))
  rw [List.take_append_drop, take_snoc _ _ hk, cntI_snoc, if_pos rfl] at hc
  simp only [badB, Bool.or_eq_false_iff, decide_eq_false_iff_not]
  omega
end Go.Proofs.Ythgdbhmdcokbdaa

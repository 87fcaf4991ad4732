/- tenders: the greedy award: data and plain law -/
import Derived.Test.YtcmkkejcnomcdaaDoorTenderL
set_option linter.unusedVariables false
set_option linter.unusedSimpArgs false
namespace Go.Proofs.YtcmkkejcnomcdaaDoor
open Go.AG

/-- the first of the least bids that q lets in, among the first k -/
def bsC (bs : List Bd) (q : Nat → Bool) (b : Int) (k : Nat) : Bool := q k && decide (b < 0 ∨ (gBd bs k).off < (gBd bs b.toNat).off)
def bsG (bs : List Bd) (q : Nat → Bool) : Nat → Int
  | 0 => -1
  | k + 1 => if bsC bs q (bsG bs q k) k = true then (k : Int) else bsG bs q k
theorem bsG_lt (bs : List Bd) (q : Nat → Bool) (k : Nat) : -1 ≤ bsG bs q k ∧ bsG bs q k < k ∧ (0 ≤ bsG bs q k → q (bsG bs q k).toNat = true) := by
  induction k with
  | zero => simp [bsG]
  | succ k ih =>
    simp only [bsG]; split
    · rename_i h
      simp only [bsC, Bool.and_eq_true] at h
      exact ⟨by omega, by omega, fun _ => by simpa using h.1⟩
    · exact ⟨ih.1, by omega, ih.2.2⟩
theorem bsG_yes {bs : List Bd} {q : Nat → Bool} {k : Nat} (h1 : q k = true) (h3 : bsG bs q k < 0 ∨ (gBd bs k).off < (gBd bs (bsG bs q k).toNat).off) : bsG bs q (k + 1) = k := by
  simp only [bsG]; rw [if_pos]; simp [bsC, h1, h3]
theorem bsG_no {bs : List Bd} {q : Nat → Bool} {k : Nat} (h : q k = false ∨ ¬ (bsG bs q k < 0 ∨ (gBd bs k).off < (gBd bs (bsG bs q k).toNat).off)) : bsG bs q (k + 1) = bsG bs q k := by
  simp only [bsG]; rw [if_neg]
  rcases h with h | h
  · simp [bsC, h]
  · simp only [bsC, Bool.and_eq_true, decide_eq_true_eq, not_and]; exact fun _ => h

structure Gs where
  ch : List Int
  lf : List Int
def gq (t : Td) (g : Gs) (i : Nat) : Bool := decide (gi g.ch (gBd t.bids i).lot.toNat < 0) && decide (0 < gi g.lf (gBd t.bids i).who.toNat)
def gbest (t : Td) (g : Gs) : Int := bsG t.bids (gq t g) t.bids.length
def gstep (t : Td) (g : Gs) (b : Nat) : Gs := ⟨g.ch.set (gBd t.bids b).lot.toNat (gBd t.bids b).who, g.lf.set (gBd t.bids b).who.toNat (gi g.lf (gBd t.bids b).who.toNat - 1)⟩
def gst (t : Td) : Nat → Gs
  | 0 => ⟨List.replicate t.lots.toNat (-1), t.most⟩
  | k + 1 => if gbest t (gst t k) < 0 then gst t k else gstep t (gst t k) (gbest t (gst t k)).toNat
def neg (g : Gs) : Nat := g.ch.countP fun x => decide (x < 0)
structure GI (t : Td) (g : Gs) : Prop where
  lc : g.ch.length = t.lots.toNat
  ll : g.lf.length = t.most.length
  c : ∀ i, i < g.ch.length → gi g.ch i = -1 ∨ 0 ≤ gi g.ch i
  l : ∀ i, i < t.most.length → 0 ≤ gi g.lf i ∧ gi g.lf i ≤ 8

theorem gbest_bd (t : Td) (g : Gs) (h : ¬ gbest t g < 0) : (gbest t g).toNat < t.bids.length ∧ gbest t g = ((gbest t g).toNat : Int) ∧ gi g.ch (gBd t.bids (gbest t g).toNat).lot.toNat < 0 ∧ 0 < gi g.lf (gBd t.bids (gbest t g).toNat).who.toNat := by
  have h1 := bsG_lt t.bids (gq t g) t.bids.length
  have h2 := h1.2.2 (by unfold gbest at h; omega)
  unfold gbest at h ⊢
  simp only [gq, Bool.and_eq_true, decide_eq_true_eq] at h2
  exact ⟨by omega, by omega, h2.1, h2.2⟩
theorem gstep_GI {t : Td} (hok : okT t = true) {g : Gs} (h : GI t g) (hb : ¬ gbest t g < 0) : GI t (gstep t g (gbest t g).toNat) ∧ neg (gstep t g (gbest t g).toNat) + 1 = neg g := by
  obtain ⟨b1, b2, b3, b4⟩ := gbest_bd t g hb
  have hbd := okT_b hok _ b1
  have hlc := h.lc
  generalize (gbest t g).toNat = b at b1 b3 b4 hbd ⊢
  have hlot : (gBd t.bids b).lot.toNat < g.ch.length := by omega
  have hwho : (gBd t.bids b).who.toNat < t.most.length := by omega
  refine ⟨⟨by simp [gstep, h.lc], by simp [gstep, h.ll], fun i hi => ?_, fun i hi => ?_⟩, ?_⟩
  · simp only [gstep, List.length_set] at hi ⊢
    by_cases e : (gBd t.bids b).lot.toNat = i
    · rw [e, gi_set_same _ _ _ hi]; omega
    · rw [gi_set_ne _ _ _ _ e]; exact h.c i hi
  · simp only [gstep]
    by_cases e : (gBd t.bids b).who.toNat = i
    · rw [e, gi_set_same _ _ _ (by rw [h.ll]; exact hi)]
      have := h.l i hi
      rw [e] at b4; omega
    · rw [gi_set_ne _ _ _ _ e]; exact h.l i hi
  · simp only [neg, gstep]
    rw [List.countP_set hlot]
    have e1 : decide (g.ch[(gBd t.bids b).lot.toNat] < 0) = true := by rw [gi_lt _ _ hlot] at b3; simpa using b3
    have e2 : decide ((gBd t.bids b).who < 0) = false := by simp; omega
    rw [e1, e2]
    have : 0 < g.ch.countP fun x => decide (x < 0) := List.countP_pos_iff.2 ⟨_, List.getElem_mem hlot, e1⟩
    simp; omega
theorem gst_ok {t : Td} (hok : okT t = true) : ∀ k, GI t (gst t k) ∧ (gbest t (gst t k) < 0 ∨ neg (gst t (k + 1)) + 1 = neg (gst t k)) := by
  have hs : ∀ k, GI t (gst t k) → (gbest t (gst t k) < 0 ∨ neg (gst t (k + 1)) + 1 = neg (gst t k)) := fun k h => by
    by_cases hb : gbest t (gst t k) < 0
    · exact .inl hb
    · refine .inr ?_
      simp only [gst]; rw [if_neg hb]
      exact (gstep_GI hok h hb).2
  intro k
  induction k with
  | zero =>
    have h0 : GI t (gst t 0) := by
      have ht := okT_t hok
      refine ⟨by simp [gst], rfl, fun i hi => .inl ?_, ht.2.2⟩
      simp only [gst, List.length_replicate] at hi ⊢
      rw [gi_lt _ _ (by simpa using hi)]; simp
    exact ⟨h0, hs 0 h0⟩
  | succ k ih =>
    have h1 : GI t (gst t (k + 1)) := by
      simp only [gst]; split
      · exact ih.1
      · rename_i hb; exact (gstep_GI hok ih.1 hb).1
    exact ⟨h1, hs _ h1⟩
theorem gst_stay {t : Td} {k : Nat} (h : gbest t (gst t k) < 0) : ∀ d, gst t (k + d) = gst t k := by
  intro d
  induction d with
  | zero => rfl
  | succ d ih =>
    show (if gbest t (gst t (k + d)) < 0 then gst t (k + d) else _) = _
    rw [ih, if_pos h]
theorem gst_neg {t : Td} (hok : okT t = true) : ∀ k, (∀ j, j < k → ¬ gbest t (gst t j) < 0) → neg (gst t k) + k = t.lots.toNat := by
  intro k
  induction k with
  | zero =>
    intro _
    simp only [neg, gst, Nat.add_zero]
    rw [List.countP_replicate]; simp
  | succ k ih =>
    intro h
    have h1 := ih (fun j hj => h j (by omega))
    have h2 := ((gst_ok hok k).2).resolve_left (h k (by omega))
    omega
/-- the award's code and the award -/
def grC (t : Td) : Int := if okT t = true then if neg (gst t t.lots.toNat) = 0 then 0 else 3 else 1
def grR (t : Td) : List Int := if grC t = 0 then (gst t t.lots.toNat).ch else []
theorem grC_1 {t : Td} (h : okT t = false) : grC t = 1 ∧ grR t = [] := by
  have : grC t = 1 := by unfold grC; rw [if_neg (by simp [h])]
  exact ⟨this, by unfold grR; rw [this]; rfl⟩
theorem grC_0 {t : Td} (h : okT t = true) (h2 : neg (gst t t.lots.toNat) = 0) : grC t = 0 ∧ grR t = (gst t t.lots.toNat).ch := by
  have : grC t = 0 := by unfold grC; rw [if_pos h, if_pos h2]
  exact ⟨this, by unfold grR; rw [this]; rfl⟩
theorem grC_3 {t : Td} (h : okT t = true) (h2 : neg (gst t t.lots.toNat) ≠ 0) : grC t = 3 ∧ grR t = [] := by
  have : grC t = 3 := by unfold grC; rw [if_pos h, if_neg h2]
  exact ⟨this, by unfold grR; rw [this]; rfl⟩
theorem neg_has {t : Td} {g : Gs} (h : GI t g) : decide ((-1 : Int) ∈ g.ch) = decide (neg g ≠ 0) := by
  have : (-1 : Int) ∈ g.ch ↔ neg g ≠ 0 := by
    unfold neg
    constructor
    · intro hm e
      have : 0 < g.ch.countP fun x => decide (x < 0) := List.countP_pos_iff.2 ⟨-1, hm, by decide⟩
      omega
    · intro hn
      obtain ⟨x, hx, hx2⟩ := List.countP_pos_iff.1 (Nat.pos_of_ne_zero hn)
      obtain ⟨i, hi, rfl⟩ := List.mem_iff_getElem.1 hx
      have := h.c i hi
      rw [gi_lt _ _ hi] at this
      have hx2 := of_decide_eq_true hx2
      rcases this with h | h
      · rw [← h]; exact List.getElem_mem hi
      · omega
  exact decide_eq_decide.2 this
theorem grR_len (t : Td) : (grR t).length ≤ 8 := by
  unfold grR; split
  · rename_i h
    have hok : okT t = true := by
      cases h2 : okT t with
      | true => rfl
      | false => rw [(grC_1 h2).1] at h; cases h
    have := (gst_ok hok t.lots.toNat).1.lc
    have := (okT_t hok).1
    omega
  · simp
end Go.Proofs.YtcmkkejcnomcdaaDoor

/- awards: faultless ones, the greedy one, the bound (plain) -/
import Derived.Test.YthgdbhmdcokbdaaAw1
set_option linter.unusedVariables false
set_option linter.unusedSimpArgs false
namespace Go.Proofs.Ythgdbhmdcokbdaa
open Go.AG

theorem cntI_snoc (x y : Int) (xs : List Int) : cntI x (xs ++ [y]) = cntI x xs + (if y = x then 1 else 0) := by
  unfold cntI
  rw [List.count_append]
  by_cases h : y = x
  · subst h; simp
  · simp [h, List.count_singleton]
theorem cntI_le (x : Int) (xs ys : List Int) : cntI x xs ≤ cntI x (xs ++ ys) := by
  unfold cntI
  rw [List.count_append]
  omega
theorem cntI_nn (x : Int) (xs : List Int) : 0 ≤ cntI x xs := by unfold cntI; omega
/-- what is left of the bidders behind some lots -/
def LfI (t : Td) (lf pre : List Int) : Prop := lf.length = t.most.length ∧ ∀ j : Nat, j < t.most.length → gi lf j = gi t.most j - cntI j pre
theorem LfI_zero (t : Td) : LfI t t.most [] := ⟨rfl, fun j _ => by simp [cntI]⟩
theorem LfI_step {t : Td} {lf pre : List Int} (h : LfI t lf pre) (j : Nat) (hj : j < t.most.length) : LfI t (down lf j) (pre ++ [(j : Int)]) := by
  obtain ⟨h1, h2⟩ := h
  refine ⟨by rw [down_ln]; exact h1, fun i hi => ?_⟩
  unfold down
  rw [cntI_snoc]
  by_cases e : j = i
  · subst e
    rw [gi_set_same _ _ _ (by omega), h2 j hj, if_pos rfl]; omega
  · rw [gi_set_ne _ _ _ _ e, h2 i hi, if_neg (by omega)]; omega
theorem gi_app (pre : List Int) (x : Int) (r : List Int) : gi (pre ++ x :: r) pre.length = x := by simp [gi, List.getD]
/-- a way is an award without faults -/
theorem pth_Fl {t : Td} : ∀ (r pre lf : List Int), LfI t lf pre → (∀ j : Nat, j < t.most.length → cntI j pre ≤ gi t.most j) → pth t pre.length lf r →
    (∀ k, pre.length ≤ k → k < (pre ++ r).length → 0 ≤ fstI (isB (gi (pre ++ r) k) (k : Int)) t.bids ∧ 0 ≤ gi (pre ++ r) k) ∧ (∀ j : Nat, j < t.most.length → cntI j (pre ++ r) ≤ gi t.most j) := by
  intro r
  induction r with
  | nil =>
    intro pre lf h1 h2 _
    refine ⟨fun k hk hk2 => ?_, by simpa using h2⟩
    simp at hk2; omega
  | cons x r ih =>
    intro pre lf h1 h2 hp
    obtain ⟨j, rfl, hj, hcn, hp⟩ := hp
    simp only [can, Bool.and_eq_true, decide_eq_true_eq] at hcn
    have hj2 : j < t.most.length := by rw [← h1.1]; exact hj
    have hlf := h1.2 j hj2
    have hc := h2 j hj2
    have h3 := LfI_step h1 j hj2
    have e : (pre ++ [(j : Int)]).length = pre.length + 1 := by simp
    have h4 := ih (pre ++ [(j : Int)]) (down lf j) h3 (fun i hi => by
      rw [cntI_snoc]
      split
      · rename_i e; have e : j = i := by omega
        subst e; omega
      · have := h2 i hi; omega) (by rw [e]; exact hp)
    rw [List.append_assoc, List.singleton_append] at h4
    refine ⟨fun k hk hk2 => ?_, h4.2⟩
    by_cases ek : k = pre.length
    · subst ek
      rw [gi_app]
      exact ⟨hcn.1, by omega⟩
    · exact h4.1 k (by rw [e]; omega) hk2
/-- a found bid's bidder -/
theorem ix_who {t : Td} (hok : okT t = true) {w : Int} {lot : Nat} (h : 0 ≤ fstI (isB w lot) t.bids) : 0 ≤ w ∧ w < t.most.length := by
  rcases fstI_cases (isB w (lot : Int)) t.bids with ⟨e, _⟩ | ⟨k, e, hk, h2, _⟩
  · omega
  · have hbd := okT_b hok k hk
    have h2 : isB w (lot : Int) (gBd t.bids k) = true := h2
    simp only [isB, Bool.and_eq_true, decide_eq_true_eq] at h2
    omega
/-- an award without faults is a way -/
theorem Fl_pth {t : Td} (hok : okT t = true) {aw : List Int} (hf : Fl t aw) : ∀ (r pre lf : List Int), pre ++ r = aw → LfI t lf pre → pth t pre.length lf r := by
  intro r
  induction r with
  | nil => intro _ _ _ _; trivial
  | cons x r ih =>
    intro pre lf he h1
    have hx : gi aw pre.length = x := by rw [← he]; exact gi_app pre x r
    have hl : pre.length < aw.length := by rw [← he]; simp
    have hb := hf.bid pre.length hl
    rw [hx] at hb
    have hw := ix_who hok hb
    obtain ⟨j, rfl⟩ : ∃ j : Nat, x = (j : Int) := ⟨x.toNat, by omega⟩
    have hj : j < t.most.length := by omega
    have e2 : pre ++ [(j : Int)] ++ r = aw := by rw [← he]; simp
    have hm := hf.most j hj
    have hc := cntI_le (j : Int) (pre ++ [(j : Int)]) r
    rw [e2, cntI_snoc, if_pos rfl] at hc
    have hlf := h1.2 j hj
    have e : (pre ++ [(j : Int)]).length = pre.length + 1 := by simp
    refine ⟨j, rfl, by rw [h1.1]; exact hj, ?_, ?_⟩
    · simp only [can, Bool.and_eq_true, decide_eq_true_eq]
      exact ⟨hb, by omega⟩
    · have := ih (pre ++ [(j : Int)]) (down lf j) e2 (LfI_step h1 j hj)
      rw [e] at this
      exact this
/-- the cost of an award's first lots -/
def offI (t : Td) (w : Int) (lot : Nat) : Int := (gBd t.bids (fstI (isB w lot) t.bids).toNat).off
def cstK (t : Td) (aw : List Int) : Nat → Int
  | 0 => 0
  | k + 1 => cstK t aw k + offI t (gi aw k) k
theorem cst_K {t : Td} {aw : List Int} : ∀ (r pre : List Int), pre ++ r = aw → (∀ k, k < aw.length → 0 ≤ gi aw k) → cstK t aw (pre.length + r.length) = cstK t aw pre.length + cst t pre.length r := by
  intro r
  induction r with
  | nil => intro pre _ _; simp [cst]
  | cons x r ih =>
    intro pre he hn
    have hx : gi aw pre.length = x := by rw [← he]; exact gi_app pre x r
    have hl : pre.length < aw.length := by rw [← he]; simp
    have h0 := hn _ hl
    rw [hx] at h0
    have e2 : pre ++ [x] ++ r = aw := by rw [← he]; simp
    have e : (pre ++ [x]).length = pre.length + 1 := by simp
    have h1 := ih (pre ++ [x]) e2 hn
    rw [e] at h1
    have e3 : pre.length + 1 + r.length = pre.length + (x :: r).length := by simp; omega
    rw [e3] at h1
    rw [h1]
    simp only [cstK, cst, hx]
    have : offI t x pre.length = offB t x.toNat pre.length := by
      unfold offI offB ixB
      rw [show ((x.toNat : Nat) : Int) = x by omega]
    omega
/-- what the cheapest award is -/
theorem che_Fl {t : Td} (hok : okT t = true) {p : List Int × Int} (h : caB t = some p) : Fl t p.1 ∧ p.2 = cstK t p.1 p.1.length := by
  have htb := okT_t hok
  rcases nx_sound t _ _ _ _ _ _ h with h1 | ⟨r, h1, h2, h3, h4⟩
  · cases h1
  · have e : p.1 = r := by simpa using h2
    have h3 : pth t ([] : List Int).length t.most r := h3
    have hf := pth_Fl r [] t.most (LfI_zero t) (fun j hj => by have := htb.2.2 j hj; simp only [cntI, List.count_nil]; omega) h3
    simp only [List.nil_append] at hf
    rw [e]
    refine ⟨⟨h1, fun k hk => (hf.1 k (by simp) hk).1, hf.2⟩, ?_⟩
    have hc := cst_K (t := t) (aw := r) r [] (by simp) (fun k hk => (hf.1 k (by simp) hk).2)
    simp only [List.length_nil, Nat.zero_add, cstK] at hc h4
    omega
theorem che_best {t : Td} (hok : okT t = true) {aw : List Int} (hf : Fl t aw) : ∃ p, caB t = some p ∧ p.2 ≤ cstK t aw aw.length := by
  have hp := Fl_pth hok hf aw [] t.most (by simp) (LfI_zero t)
  have hb := nx_best t t.lots.toNat t.most [] 0 none aw hf.len hp
  have hn : ∀ k, k < aw.length → 0 ≤ gi aw k := fun k hk => (ix_who hok (hf.bid k hk)).1
  have hc := cst_K (t := t) (aw := aw) aw [] (by simp) hn
  simp only [List.length_nil, Nat.zero_add, cstK] at hc hb
  obtain ⟨p, h1, h2⟩ := hb
  exact ⟨p, h1, by omega⟩
end Go.Proofs.Ythgdbhmdcokbdaa

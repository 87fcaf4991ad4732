/- shares by the greatest remainders, one after the other: plain -/
import Derived.Test.YthnphcinjchloaaDivP
set_option linter.unusedVariables false
set_option linter.unusedSimpArgs false
namespace Go.Proofs.Ythnphcinjchloaa
open Go.AG Go.Lib Go.Sort

/-- the first of the greatest numbers among the first i -/
def amx (r : List Int) : Nat → Nat
  | 0 => 0
  | i + 1 => if gi r i > gi r (amx r i) then i else amx r i
theorem amx_one (r : List Int) : amx r 1 = 0 := by simp [amx]
theorem amx_lt (r : List Int) (i : Nat) (h : 1 ≤ i) : amx r i < i := by
  induction i with
  | zero => omega
  | succ i ih =>
    rw [amx]
    split
    · omega
    · by_cases e : i = 0
      · subst e; simp [amx]
      · have := ih (by omega); omega
theorem amx_le (r : List Int) (i : Nat) : amx r i ≤ i := by
  by_cases h : 1 ≤ i
  · have := amx_lt r i h; omega
  · have : i = 0 := by omega
    subst this; simp [amx]
theorem amx_ok (r : List Int) (n : Nat) (hn : 1 ≤ n) : (∀ j, j < n → gi r j ≤ gi r (amx r n)) ∧ ∀ j, j < amx r n → gi r j < gi r (amx r n) := by
  induction n with
  | zero => omega
  | succ i ih =>
    rw [amx]
    by_cases e : i = 0
    · subst e
      simp only [amx, gt_iff_lt, Int.lt_irrefl, if_false]
      exact ⟨fun j hj => by rw [show j = 0 by omega]; omega, fun j hj => by omega⟩
    · obtain ⟨h1, h2⟩ := ih (by omega)
      by_cases c : gi r i > gi r (amx r i)
      · rw [if_pos c]
        exact ⟨fun j hj => by
          by_cases e2 : j = i
          · subst e2; omega
          · have := h1 j (by omega); omega, fun j hj => by have := h1 j hj; omega⟩
      · rw [if_neg c]
        exact ⟨fun j hj => by
          by_cases e2 : j = i
          · subst e2; omega
          · exact h1 j (by omega), h2⟩
theorem amx_eq (r : List Int) (n x : Nat) (hx : x < n) (h1 : ∀ j, j < n → gi r j ≤ gi r x) (h2 : ∀ j, j < x → gi r j < gi r x) : amx r n = x := by
  obtain ⟨a1, a2⟩ := amx_ok r n (by omega)
  have l := amx_lt r n (by omega)
  rcases Nat.lt_trichotomy (amx r n) x with h | h | h
  · have := h2 _ h; have := a1 x hx; omega
  · exact h
  · have := a2 _ h; have := h1 _ l; omega
/-- remainders, where those that had one more are marked -/
def mrk (b L : List Int) : List Int := L.foldl (fun b i => b.set i.toNat (-1)) b
theorem mrk_snoc (b L : List Int) (i : Int) : mrk b (L ++ [i]) = (mrk b L).set i.toNat (-1) := by simp [mrk]
theorem mrk_len (b L : List Int) : (mrk b L).length = b.length := by
  induction L generalizing b with
  | nil => rfl
  | cons x r ih => simp only [mrk, List.foldl_cons] at ih ⊢; rw [ih, List.length_set]
theorem mrk_val (b L : List Int) (h : ∀ i ∈ L, 0 ≤ i ∧ i < b.length) : ∀ k : Nat, gi (mrk b L) k = if (k : Int) ∈ L then -1 else gi b k := by
  induction L generalizing b with
  | nil => intro k; simp [mrk]
  | cons x r ih =>
    intro k
    have hx := h x (List.mem_cons_self ..)
    have e : mrk b (x :: r) = mrk (b.set x.toNat (-1)) r := rfl
    rw [e, ih _ (fun i hi => by rw [List.length_set]; exact h i (List.mem_cons_of_mem _ hi)) k, gi_set0 _ _ _ _ (by omega)]
    by_cases c : (k : Int) ∈ r
    · rw [if_pos c, if_pos (List.mem_cons_of_mem _ c)]
    · rw [if_neg c]
      by_cases c2 : k = x.toNat
      · rw [if_pos c2, if_pos (by rw [show (k : Int) = x by omega]; exact List.mem_cons_self ..)]
      · rw [if_neg c2, if_neg (by rw [List.mem_cons]; rintro (g | g); (omega); exact c g)]
def rI (T : Int) (ws : List Int) : List Int := ws.map fun x => T * x % sumI ws
theorem rI_len (T : Int) (ws : List Int) : (rI T ws).length = ws.length := by simp [rI]
/-- the next one is the next one of the order -/
theorem amx_ord {T : Int} {ws : List Int} (h : ShOk T ws) (k : Nat) (hk : k < ws.length) : amx (mrk (rI T ws) ((ordV T (sumI ws) ws).take k)) ws.length = (gi (ordV T (sumI ws) ws) k).toNat := by
  have hs := h.s
  have hlen := ordV_len T (sumI ws) ws
  have hat := ord_at (T := T) (S := sumI ws) (ws := ws) k hk
  have hnd : (ordV T (sumI ws) ws).Nodup := ((List.Perm.nodup_iff (ordV_ok T (sumI ws) ws).1).2 (posI_nodup _))
  have hm := mrk_val (rI T ws) ((ordV T (sumI ws) ws).take k) (fun i hi => by rw [rI_len]; exact ord_mem i |>.1 (List.mem_of_mem_take hi))
  have hr : ∀ j : Nat, j < ws.length → gi (rI T ws) j = T * gi ws j % sumI ws := fun j hj => by rw [rI, gi_map _ _ _ hj]
  have hin : ∀ m, m < ws.length → gi (ordV T (sumI ws) ws) m ∈ (ordV T (sumI ws) ws).take k → m < k := fun m hm1 hm2 => by
    obtain ⟨q, hq, e⟩ := List.getElem_of_mem hm2
    rw [List.length_take] at hq
    rw [List.getElem_take] at e
    have e2 : gi (ordV T (sumI ws) ws) m = (ordV T (sumI ws) ws)[m]'(by omega) := by simp [gi, show m < (ordV T (sumI ws) ws).length by omega]
    rw [e2] at e
    have := (List.getElem_inj hnd).1 e
    omega
  have hnot : ¬ gi (ordV T (sumI ws) ws) k ∈ (ordV T (sumI ws) ws).take k := fun g => by have := hin k hk g; omega
  have eb : gi (mrk (rI T ws) ((ordV T (sumI ws) ws).take k)) (gi (ordV T (sumI ws) ws) k).toNat = T * gi ws (gi (ordV T (sumI ws) ws) k).toNat % sumI ws := by
    rw [hm, if_neg (by rw [Int.toNat_of_nonneg hat.1]; exact hnot), hr _ (by omega)]
  have hnn : ∀ i : Nat, 0 ≤ T * gi ws i % sumI ws := fun i => Int.emod_nonneg _ (by omega)
  have key : ∀ j : Nat, j < ws.length → gi (mrk (rI T ws) ((ordV T (sumI ws) ws).take k)) j ≤ T * gi ws (gi (ordV T (sumI ws) ws) k).toNat % sumI ws ∧ (j < (gi (ordV T (sumI ws) ws) k).toNat → gi (mrk (rI T ws) ((ordV T (sumI ws) ws).take k)) j < T * gi ws (gi (ordV T (sumI ws) ws) k).toNat % sumI ws) := fun j hj => by
    have hp := hnn (gi (ordV T (sumI ws) ws) k).toNat
    rw [hm]
    by_cases c : (j : Int) ∈ (ordV T (sumI ws) ws).take k
    · rw [if_pos c]; omega
    · rw [if_neg c, hr j hj]
      have hmem : (j : Int) ∈ ordV T (sumI ws) ws := (ord_mem _).2 (by omega)
      obtain ⟨m, hm1, e⟩ := List.getElem_of_mem hmem
      have e2 : gi (ordV T (sumI ws) ws) m = (ordV T (sumI ws) ws)[m] := by simp [gi, hm1]
      have hmk : k ≤ m := by
        apply Nat.le_of_not_lt; intro g
        apply c
        rw [← e, List.mem_take_iff_getElem]
        exact ⟨m, by omega, rfl⟩
      by_cases e3 : m = k
      · have ej : (gi (ordV T (sumI ws) ws) k).toNat = j := by rw [← e3, e2, e]; omega
        rw [ej]
        exact ⟨Int.le_refl _, fun h => absurd h (Nat.lt_irrefl _)⟩
      · have ho := (ordV_tot T (sumI ws) ws) k m (by omega) (by omega)
        rw [e2, e, Int.toNat_natCast] at ho
        rw [rmW_eq h, rmW_eq h] at ho
        omega
  refine amx_eq _ _ _ (by omega) (fun j hj => ?_) (fun j hj => ?_)
  · rw [eb]; exact (key j hj).1
  · rw [eb]; exact (key j (by omega)).2 hj
end Go.Proofs.Ythnphcinjchloaa

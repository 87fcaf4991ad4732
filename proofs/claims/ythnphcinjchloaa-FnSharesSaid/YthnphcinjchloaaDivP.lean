/- shares by the greatest remainders: the plain law -/
import Derived.Test.YthnphcinjchloaaShr2
set_option linter.unusedVariables false
set_option linter.unusedSimpArgs false
namespace Go.Proofs.Ythnphcinjchloaa
open Go.AG Go.Lib Go.Sort

structure ShOk (T : Int) (ws : List Int) : Prop where
  t : 0 ≤ T ∧ T ≤ 1000000000
  w : ∀ x ∈ ws, 0 ≤ x ∧ x ≤ 1000000000
  l : ws.length ≤ 60
  s : 0 < sumI ws
theorem gi_mem0 (xs : List Int) (i : Nat) (h : i < xs.length) : gi xs i ∈ xs := by
  simp only [gi, List.getD_eq_getElem?_getD, List.getElem?_eq_getElem h, Option.getD_some]
  exact List.getElem_mem _
theorem mul_bd (T x : Int) (hT : 0 ≤ T ∧ T ≤ 1000000000) (hx : 0 ≤ x ∧ x ≤ 1000000000) : 0 ≤ T * x ∧ T * x ≤ 1000000000000000000 := by
  have h1 := Int.mul_nonneg hT.1 hx.1
  have h2 := Int.mul_le_mul hT.2 hx.2 hx.1 (by omega)
  omega
theorem ShOk.wi {T : Int} {ws : List Int} (h : ShOk T ws) (i : Nat) : 0 ≤ gi ws i ∧ gi ws i ≤ 1000000000 := by
  by_cases hi : i < ws.length
  · exact h.w _ (gi_mem0 ws i hi)
  · simp [gi, List.getD_eq_getElem?_getD, List.getElem?_eq_none (show ws.length ≤ i by omega)]
theorem wrap_small (x : Int) (h : 0 ≤ x ∧ x ≤ 1000000000000000000) : IntKind.wrap .i64 x = x ∧ RowKit.wrap64 x = x := by
  constructor
  · simp [IntKind.wrap, IntKind.bits, IntKind.signed]; omega
  · simp only [RowKit.wrap64]; omega
theorem rmW_eq {T : Int} {ws : List Int} (h : ShOk T ws) (S : Int) (i : Nat) : rmW T S (gi ws i) = T * gi ws i % S := by
  have hb := mul_bd T _ h.t (h.wi i)
  simp only [rmW]
  rw [(wrap_small _ hb).2, Int.tmod_eq_emod_of_nonneg hb.1]
/-- the whole parts, the remainders, the rest -/
def bI (T : Int) (ws : List Int) : List Int := ws.map fun x => T * x / sumI ws
def dI (T : Int) (ws : List Int) : Int := T - sumI (bI T ws)
theorem bI_len (T : Int) (ws : List Int) : (bI T ws).length = ws.length := by simp [bI]
theorem gi_map (f : Int → Int) (xs : List Int) (i : Nat) (h : i < xs.length) : gi (xs.map f) i = f (gi xs i) := by
  simp [gi, List.getD_eq_getElem?_getD, List.getElem?_map, List.getElem?_eq_getElem h]
theorem split_sum (T S : Int) (ws : List Int) : S * sumI (ws.map fun x => T * x / S) + sumI (ws.map fun x => T * x % S) = T * sumI ws := by
  induction ws with
  | nil => simp [sumI_nil]
  | cons x r ih =>
    simp only [List.map_cons, sumI_cons, Int.mul_add]
    have := Int.mul_ediv_add_emod (T * x) S
    omega
theorem rest_sum (T : Int) (ws : List Int) : sumI ws * dI T ws = sumI (ws.map fun x => T * x % sumI ws) := by
  have := split_sum T (sumI ws) ws
  unfold dI bI
  rw [Int.mul_sub, Int.mul_comm (sumI ws) T]
  omega
theorem sumI_perm {xs ys : List Int} (h : xs.Perm ys) : sumI xs = sumI ys := by
  induction h with
  | nil => rfl
  | cons x _ ih => simp only [sumI_cons, ih]
  | swap x y l => simp only [sumI_cons]; omega
  | trans _ _ h1 h2 => rw [h1, h2]
theorem sum_pos {f : Int → Int} (S : Int) (hS : 0 < S) (xs : List Int) (h : ∀ x ∈ xs, 0 ≤ f x ∧ f x < S) : 0 ≤ sumI (xs.map f) ∧ sumI (xs.map f) ≤ (S - 1) * xs.length := by
  induction xs with
  | nil => simp [sumI_nil]
  | cons x r ih =>
    obtain ⟨h1, h2⟩ := ih fun y hy => h y (List.mem_cons_of_mem _ hy)
    have h3 := h x (List.mem_cons_self ..)
    simp only [List.map_cons, sumI_cons, List.length_cons, Int.natCast_add, Int.mul_add]
    omega
theorem sum_zero {f : Int → Int} (xs : List Int) (h : ∀ x ∈ xs, f x = 0) : sumI (xs.map f) = 0 := by
  induction xs with
  | nil => simp [sumI_nil]
  | cons x r ih =>
    simp only [List.map_cons, sumI_cons, ih fun y hy => h y (List.mem_cons_of_mem _ hy), h x (List.mem_cons_self ..)]
    omega
theorem posI_len (n : Nat) : (posI n).length = n := by simp [posI]
theorem mem_posI (n : Nat) (i : Int) : i ∈ posI n ↔ 0 ≤ i ∧ i < n := by
  simp only [posI, List.mem_map, List.mem_range]
  constructor
  · rintro ⟨a, h, rfl⟩; omega
  · rintro ⟨h1, h2⟩; exact ⟨i.toNat, by omega, by omega⟩
theorem map_posI (f : Int → Int) (ws : List Int) : (posI ws.length).map (fun i => f (gi ws i.toNat)) = ws.map f := by
  apply List.ext_getElem (by simp [posI])
  intro i h1 h2
  have h3 : i < ws.length := by simpa using h2
  simp [posI, gi, h3]
theorem posI_nodup (n : Nat) : (posI n).Nodup := by
  unfold posI
  exact List.Pairwise.map _ (fun a b h e => h (by omega)) List.nodup_range
theorem rest_bd {T : Int} {ws : List Int} (h : ShOk T ws) : 0 ≤ dI T ws ∧ dI T ws ≤ ws.length := by
  have h1 := rest_sum T ws
  have h2 := sum_pos (f := fun x => T * x % sumI ws) (sumI ws) h.s ws (fun x hx => ⟨Int.emod_nonneg _ (by have := h.s; omega), Int.emod_lt_of_pos _ h.s⟩)
  rw [← h1] at h2
  have hs := h.s
  constructor
  · rcases Int.lt_or_le (dI T ws) 0 with hd | hd
    · have := Int.mul_neg_of_pos_of_neg hs hd
      omega
    · exact hd
  · rcases Int.lt_or_le (ws.length : Int) (dI T ws) with hd | hd
    · have h3 : sumI ws * ((ws.length : Int) + 1) ≤ sumI ws * dI T ws := Int.mul_le_mul_of_nonneg_left (by omega) (by omega)
      rw [Int.mul_add] at h3
      have h4 : (sumI ws - 1) * (ws.length : Int) = sumI ws * (ws.length : Int) - ws.length := by rw [Int.sub_mul]; omega
      omega
    · exact hd
theorem ord_mem {T S : Int} {ws : List Int} (i : Int) : i ∈ ordV T S ws ↔ 0 ≤ i ∧ i < ws.length := by
  rw [(ordV_ok T S ws).1.mem_iff, mem_posI]
theorem ord_at {T S : Int} {ws : List Int} (k : Nat) (h : k < ws.length) : 0 ≤ gi (ordV T S ws) k ∧ gi (ordV T S ws) k < ws.length := by
  rw [← ord_mem (T := T) (S := S)]
  exact gi_mem0 _ _ (by rw [ordV_len]; exact h)
/-- the first ones, as many as the rest, have remainders -/
theorem first_pos {T : Int} {ws : List Int} (h : ShOk T ws) (j : Nat) (hj : (j : Int) < dI T ws) : 0 < T * gi ws (gi (ordV T (sumI ws) ws) j).toNat % sumI ws := by
  have hbd := rest_bd h
  have hs := h.s
  have hlen := ordV_len T (sumI ws) ws
  obtain ⟨hp, ho⟩ := ordV_ok T (sumI ws) ws
  have hnn : ∀ i : Nat, 0 ≤ T * gi ws i % sumI ws := fun i => Int.emod_nonneg _ (by omega)
  rcases Int.lt_or_le 0 (T * gi ws (gi (ordV T (sumI ws) ws) j).toNat % sumI ws) with h0 | h0
  · exact h0
  exfalso
  have hsum : sumI ((ordV T (sumI ws) ws).map fun i => T * gi ws i.toNat % sumI ws) = sumI ws * dI T ws := by
    rw [rest_sum, sumI_perm (hp.map _)]
    exact congrArg sumI (map_posI (fun x => T * x % sumI ws) ws)
  rw [← List.take_append_drop j (ordV T (sumI ws) ws), List.map_append, sumI_append] at hsum
  have hz : sumI ((List.drop j (ordV T (sumI ws) ws)).map fun i => T * gi ws i.toNat % sumI ws) = 0 := by
    refine sum_zero _ fun x hx => ?_
    obtain ⟨k, hk, rfl⟩ := List.getElem_of_mem hx
    simp only [List.length_drop] at hk
    have e : (List.drop j (ordV T (sumI ws) ws))[k]'(by simp; omega) = gi (ordV T (sumI ws) ws) (j + k) := by simp [gi, show j + k < (ordV T (sumI ws) ws).length by omega]
    rw [e]
    have hnn2 := hnn (gi (ordV T (sumI ws) ws) (j + k)).toNat
    by_cases hk0 : k = 0
    · subst hk0; simp only [Nat.add_zero] at hnn2 ⊢; omega
    · have := ho j (j + k) (by omega) (by omega)
      rw [rmW_eq h, rmW_eq h] at this
      omega
  have hb := sum_pos (f := fun i => T * gi ws i.toNat % sumI ws) (sumI ws) hs (List.take j (ordV T (sumI ws) ws)) (fun x _ => ⟨Int.emod_nonneg _ (by omega), Int.emod_lt_of_pos _ hs⟩)
  have hlt : ((List.take j (ordV T (sumI ws) ws)).length : Int) = j := by rw [List.length_take]; omega
  rw [hlt] at hb
  have h3 : sumI ws * ((j : Int) + 1) ≤ sumI ws * dI T ws := Int.mul_le_mul_of_nonneg_left (by omega) (by omega)
  rw [Int.mul_add] at h3
  have h4 : (sumI ws - 1) * (j : Int) = sumI ws * (j : Int) - j := by rw [Int.sub_mul]; omega
  omega
/-- one more at each of these places -/
def incr (b L : List Int) : List Int := L.foldl (fun b i => b.set i.toNat (gi b i.toNat + 1)) b
theorem incr_snoc (b L : List Int) (i : Int) : incr b (L ++ [i]) = (incr b L).set i.toNat (gi (incr b L) i.toNat + 1) := by simp [incr]
theorem incr_len (b L : List Int) : (incr b L).length = b.length := by
  induction L generalizing b with
  | nil => rfl
  | cons x r ih => simp only [incr, List.foldl_cons] at ih ⊢; rw [ih, List.length_set]
theorem gi_set0 (b : List Int) (i k : Nat) (v : Int) (h : i < b.length) : gi (b.set i v) k = if k = i then v else gi b k := by
  simp only [gi, List.getD_eq_getElem?_getD, List.getElem?_set]
  by_cases e : i = k
  · subst e; simp [h]
  · simp [e, Ne.symm e]
theorem sum_set0 (b : List Int) (i : Nat) (v : Int) (h : i < b.length) : sumI (b.set i v) = sumI b - gi b i + v := by
  induction b generalizing i with
  | nil => simp at h
  | cons x r ih =>
    cases i with
    | zero => simp [sumI_cons, gi]; omega
    | succ i =>
      have := ih i (by simpa using h)
      simp only [List.set_cons_succ, sumI_cons, this]
      simp [gi]
      omega
theorem incr_val (b : List Int) (L : List Int) (hn : L.Nodup) (h : ∀ i ∈ L, 0 ≤ i ∧ i < b.length) : sumI (incr b L) = sumI b + L.length ∧ ∀ k : Nat, k < b.length → gi (incr b L) k = gi b k + if (k : Int) ∈ L then 1 else 0 := by
  induction L generalizing b with
  | nil => exact ⟨by simp [incr], fun k hk => by simp [incr]⟩
  | cons x r ih =>
    rw [List.nodup_cons] at hn
    have hx := h x (List.mem_cons_self ..)
    obtain ⟨h1, h2⟩ := ih (b.set x.toNat (gi b x.toNat + 1)) hn.2 (fun i hi => by rw [List.length_set]; exact h i (List.mem_cons_of_mem _ hi))
    have e : incr b (x :: r) = incr (b.set x.toNat (gi b x.toNat + 1)) r := rfl
    rw [e]
    refine ⟨?_, fun k hk => ?_⟩
    · rw [h1, sum_set0 _ _ _ (by omega), List.length_cons]; omega
    · rw [h2 k (by rw [List.length_set]; exact hk), gi_set0 _ _ _ _ (by omega)]
      by_cases hk1 : k = x.toNat
      · have e2 : (k : Int) = x := by omega
        rw [if_pos hk1, e2, if_neg hn.1, if_pos (List.mem_cons_self ..), ← hk1]
        omega
      · rw [if_neg hk1]
        have : ((k : Int) ∈ x :: r) ↔ (k : Int) ∈ r := by
          rw [List.mem_cons]
          exact ⟨fun h => h.resolve_left (by omega), .inr⟩
        simp only [this]
/-- the shares -/
def shV (T : Int) (ws : List Int) : List Int := incr (bI T ws) ((ordV T (sumI ws) ws).take (dI T ws).toNat)
theorem shV_len (T : Int) (ws : List Int) : (shV T ws).length = ws.length := by rw [shV, incr_len, bI_len]
theorem sh_ok {T : Int} {ws : List Int} (h : ShOk T ws) : sumI (shV T ws) = T ∧ ∀ i : Nat, i < ws.length → (gi (shV T ws) i = T * gi ws i / sumI ws ∨ gi (shV T ws) i = T * gi ws i / sumI ws + 1 ∧ 0 < T * gi ws i % sumI ws) := by
  have hbd := rest_bd h
  have hlen := ordV_len T (sumI ws) ws
  have hn : ((ordV T (sumI ws) ws).take (dI T ws).toNat).Nodup := ((List.Perm.nodup_iff (ordV_ok T (sumI ws) ws).1).2 (posI_nodup _)).sublist (List.take_sublist _ _)
  obtain ⟨h1, h2⟩ := incr_val (bI T ws) ((ordV T (sumI ws) ws).take (dI T ws).toNat) hn (fun i hi => by
    rw [bI_len]; exact ord_mem i |>.1 (List.mem_of_mem_take hi))
  refine ⟨?_, fun i hi => ?_⟩
  · unfold shV
    rw [h1, List.length_take]
    unfold dI at *
    omega
  · unfold shV
    rw [h2 i (by rw [bI_len]; exact hi), bI, gi_map _ _ _ hi]
    split
    · rename_i hm
      right
      obtain ⟨k, hk, e⟩ := List.getElem_of_mem hm
      have hk2 : k < (dI T ws).toNat ∧ k < ws.length := by rw [List.length_take] at hk; omega
      have := first_pos h k (by omega)
      have e2 : gi (ordV T (sumI ws) ws) k = i := by
        rw [← e]; simp [gi, show k < (ordV T (sumI ws) ws).length by omega]
      rw [e2, Int.toNat_natCast] at this
      exact ⟨rfl, this⟩
    · left; omega
end Go.Proofs.Ythnphcinjchloaa

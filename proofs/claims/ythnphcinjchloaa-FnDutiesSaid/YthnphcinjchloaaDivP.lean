/- shares by the greatest remainders: the plain law; shares by the greatest remainders, one after the other: plain -/
import Derived.Test.YthnphcinjchloaaShr2
set_option linter.unusedVariables false
set_option linter.unusedSimpArgs false
namespace Go.Proofs.Ythnphcinjchloaa
open Go.AG Go.Lib Go.Sort

structure ShOk (T : Int) (ws : List Int) : Prop where
  t : 0 ≤ T ∧ T ≤ 1000000000
  w : ∀ x ∈ ws, 0 ≤ x ∧ x ≤ 1000000000
  l : ws.length ≤ 60
  s : 0 < sumI ws
theorem gi_mem0 (xs : List Int) (i : Nat) (h : i < xs.length) : gi xs i ∈ xs := by
  simp only [gi, List.getD_eq_getElem?_getD, List.getElem?_eq_getElem h, Option.getD_some]
  exact List.getElem_mem _
theorem mul_bd (T x : Int) (hT : 0 ≤ T ∧ T ≤ 1000000000) (hx : 0 ≤ x ∧ x ≤ 1000000000) : 0 ≤ T * x ∧ T * x ≤ 1000000000000000000 := by
  have h1 := Int.mul_nonneg hT.1 hx.1
  have h2 := Int.mul_le_mul hT.2 hx.2 hx.1 (by omega)
  omega
theorem ShOk.wi {T : Int} {ws : List Int} (h : ShOk T ws) (i : Nat) : 0 ≤ gi ws i ∧ gi ws i ≤ 1000000000 := by
  by_cases hi : i < ws.length
  · exact h.w _ (gi_mem0 ws i hi)
  · simp [gi, List.getD_eq_getElem?_getD, List.getElem?_eq_none (show ws.length ≤ i by omega)]
theorem wrap_small (x : Int) (h : 0 ≤ x ∧ x ≤ 1000000000000000000) : IntKind.wrap .i64 x = x ∧ RowKit.wrap64 x = x := by
  constructor
  · simp [IntKind.wrap, IntKind.bits, IntKind.signed]; omega
  · simp only [RowKit.wrap64]; omega
theorem rmW_eq {T : Int} {ws : List Int} (h : ShOk T ws) (S : Int) (i : Nat) : rmW T S (gi ws i) = T * gi ws i % S := by
  have hb := mul_bd T _ h.t (h.wi i)
  simp only [rmW]
  rw [(wrap_small _ hb).2, Int.tmod_eq_emod_of_nonneg hb.1]
/-- the whole parts, the remainders, the rest -/
def bI (T : Int) (ws : List Int) : List Int := ws.map fun x => T * x / sumI ws
def dI (T : Int) (ws : List Int) : Int := T - sumI (bI T ws)
theorem bI_len (T : Int) (ws : List Int) : (bI T ws).length = ws.length := by simp [bI]
theorem gi_map (f : Int → Int) (xs : List Int) (i : Nat) (h : i < xs.length) : gi (xs.map f) i = f (gi xs i) := by
  simp [gi, List.getD_eq_getElem?_getD, List.getElem?_map, List.getElem?_eq_getElem h]
theorem split_sum (T S : Int) (ws : List Int) : S * sumI (ws.map fun x => T * x / S) + sumI (ws.map fun x => T * x % S) = T * sumI ws := by
  induction ws with
  | nil => simp [sumI_nil]
  | cons x r ih =>
    simp only [List.map_cons, sumI_cons, Int.mul_add]
    have := Int.mul_ediv_add_emod (T * x) S
    omega
theorem rest_sum (T : Int) (ws : List Int) : sumI ws * dI T ws = sumI (ws.map fun x => T * x % sumI ws) := by
  have := split_sum T (sumI ws) ws
  unfold dI bI
  rw [Int.mul_sub, Int.mul_comm (sumI ws) T]
  omega
theorem sumI_perm {xs ys : List Int} (h : xs.Perm ys) : sumI xs = sumI ys := by
  induction h with
  | nil => rfl
  | cons x _ ih => simp only [sumI_cons, ih]
  | swap x y l => simp only [sumI_cons]; omega
  | trans _ _ h1 h2 => rw [h1, h2]
theorem sum_pos {f : Int → Int} (S : Int) (hS : 0 < S) (xs : List Int) (h : ∀ x ∈ xs, 0 ≤ f x ∧ f x < S) : 0 ≤ sumI (xs.map f) ∧ sumI (xs.map f) ≤ (S - 1) * xs.length := by
  induction xs with
  | nil => simp [sumI_nil]
  | cons x r ih =>
    obtain ⟨h1, h2⟩ := ih fun y hy => h y (List.mem_cons_of_mem _ hy)
    have h3 := h x (List.mem_cons_self ..)
    simp only [List.map_cons, sumI_cons, List.length_cons, Int.natCast_add, Int.mul_add]
    omega
theorem sum_zero {f : Int → Int} (xs : List Int) (h : ∀ x ∈ xs, f x = 0) : sumI (xs.map f) = 0 := by
  induction xs with
  | nil => simp [sumI_nil]
  | cons x r ih =>
    simp only [List.map_cons, sumI_cons, ih fun y hy => h y (List.mem_cons_of_mem _ hy), h x (List.mem_cons_self ..)]
    omega
theorem posI_len (n : Nat) : (posI n).length = n := by simp [posI]
theorem mem_posI (n : Nat) (i : Int) : i ∈ posI n ↔ 0 ≤ i ∧ i < n := by
  simp only [posI, List.mem_map, List.mem_range]
  constructor
  · rintro ⟨a, h, rfl⟩; omega
  · rintro ⟨h1, h2⟩; exact ⟨i.toNat, by omega, by omega⟩
theorem map_posI (f : Int → Int) (ws : List Int) : (posI ws.length).map (fun i => f (gi ws i.toNat)) = ws.map f := by
  apply List.ext_getElem (by simp [posI])
  intro i h1 h2
  have h3 : i < ws.length := by simpa using h2
  simp [posI, gi, h3]
theorem posI_nodup (n : Nat) : (posI n).Nodup := by
  unfold posI
  exact List.Pairwise.map _ (fun a b h e => h (by omega)) List.nodup_range
theorem rest_bd {T : Int} {ws : List Int} (h : ShOk T ws) : 0 ≤ dI T ws ∧ dI T ws ≤ ws.length := by
  have h1 := rest_sum T ws
  have h2 := sum_pos (f := fun x => T * x % sumI ws) (sumI ws) h.s ws (fun x hx => ⟨Int.emod_nonneg _ (by have := h.s; omega), Int.emod_lt_of_pos _ h.s⟩)
  rw [← h1] at h2
  have hs := h.s
  constructor
  · rcases Int.lt_or_le (dI T ws) 0 with hd | hd
    · have := Int.mul_neg_of_pos_of_neg hs hd
      omega
    · exact hd
  · rcases Int.lt_or_le (ws.length : Int) (dI T ws) with hd | hd
    · have h3 : sumI ws * ((ws.length : Int) + 1) ≤ sumI ws * dI T ws := Int.mul_le_mul_of_nonneg_left (by omega) (by omega)
      rw [Int.mul_add] at h3
      have h4 : (sumI ws - 1) * (ws.length : Int) = sumI ws * (ws.length : Int) - ws.length := by rw [Int.sub_mul]; omega
      omega
    · exact hd
theorem ord_mem {T S : Int} {ws : List Int} (i : Int) : i ∈ ordV T S ws ↔ 0 ≤ i ∧ i < ws.length := by
  rw [(ordV_ok T S ws).1.mem_iff, mem_posI]
theorem ord_at {T S : Int} {ws : List Int} (k : Nat) (h : k < ws.length) : 0 ≤ gi (ordV T S ws) k ∧ gi (ordV T S ws) k < ws.length := by
  rw [← ord_mem (T := T) (S := S)]
  exact gi_mem0 _ _ (by rw [ordV_len]; exact h)
/-- the first ones, as many as the rest, have remainders -/
theorem first_pos {T : Int} {ws : List Int} (h : ShOk T ws) (j : Nat) (hj : (j : Int) < dI T ws) : 0 < T * gi ws (gi (ordV T (sumI ws) ws) j).toNat % sumI ws := by
  have hbd := rest_bd h
  have hs := h.s
  have hlen := ordV_len T (sumI ws) ws
  obtain ⟨hp, ho⟩ := ordV_ok T (sumI ws) ws
  have hnn : ∀ i : Nat, 0 ≤ T * gi ws i % sumI ws := fun i => Int.emod_nonneg _ (by omega)
  rcases Int.lt_or_le 0 (T * gi ws (gi (ordV T (sumI ws) ws) j).toNat % sumI ws) with h0 | h0
  · exact h0
  exfalso
  have hsum : sumI ((ordV T (sumI ws) ws).map fun i => T * gi ws i.toNat % sumI ws) = sumI ws * dI T ws := by
    rw [rest_sum, sumI_perm (hp.map _)]
    exact congrArg sumI (map_posI (fun x => T * x % sumI ws) ws)
  rw [← List.take_append_drop j (ordV T (sumI ws) ws), List.map_append, sumI_append] at hsum
  have hz : sumI ((List.drop j (ordV T (sumI ws) ws)).map fun i => T * gi ws i.toNat % sumI ws) = 0 := by
    refine sum_zero _ fun x hx => ?_
    obtain ⟨k, hk, rfl⟩ := List.getElem_of_mem hx
    simp only [List.length_drop] at hk
    have e : (List.drop j (ordV T (sumI ws) ws))[k]'(by simp; omega) = gi (ordV T (sumI ws) ws) (j + k) := by simp [gi, show j + k < (ordV T (sumI ws) ws).length by omega]
    rw [e]
    have hnn2 := hnn (gi (ordV T (sumI ws) ws) (j + k)).toNat
    by_cases hk0 : k = 0
    · subst hk0; simp only [Nat.add_zero] at hnn2 ⊢; omega
    · have := ho j (j + k) (by omega) (by omega)
      rw [rmW_eq h, rmW_eq h] at this
      omega
  have hb := sum_pos (f := fun i => T * gi ws i.toNat % sumI ws) (sumI ws) hs (List.take j (ordV T (sumI ws) ws)) (fun x _ => ⟨Int.emod_nonneg _ (by omega), Int.emod_lt_of_pos _ hs⟩)
  have hlt : ((List.take j (ordV T (sumI ws) ws)).length : Int) = j := by rw [List.length_take]; omega
  rw [hlt] at hb
  have h3 : sumI ws * ((j : Int) + 1) ≤ sumI ws * dI T ws := Int.mul_le_mul_of_nonneg_left (by omega) (by omega)
  rw [Int.mul_add] at h3
  have h4 : (sumI ws - 1) * (j : Int) = sumI ws * (j : Int) - j := by rw [Int.sub_mul]; omega
  omega
/-- one more at each of these places -/
def incr (b L : List Int) : List Int := L.foldl (fun b i => b.set i.toNat (gi b i.toNat + 1)) b
theorem incr_snoc (b L : List Int) (i : Int) : incr b (L ++ [i]) = (incr b L).set i.toNat (gi (incr b L) i.toNat + 1) := by simp [incr]
theorem incr_len (b L : List Int) : (incr b L).length = b.length := by
  induction L generalizing b with
  | nil => rfl
  | cons x r ih => simp only [incr, List.foldl_cons] at ih ⊢; rw [ih, List.length_set]
theorem gi_set0 (b : List Int) (i k : Nat) (v : Int) (h : i < b.length) : gi (b.set i v) k = if k = i then v else gi b k := by
  simp only [gi, List.getD_eq_getElem?_getD, List.getElem?_set]
  by_cases e : i = k
  · subst e; simp [h]
  · simp [e, Ne.symm e]
theorem sum_set0 (b : List Int) (i : Nat) (v : Int) (h : i < b.length) : sumI (b.set i v) = sumI b - gi b i + v := by
  induction b generalizing i with
  | nil => simp at h
  | cons x r ih =>
    cases i with
    | zero => simp [sumI_cons, gi]; omega
    | succ i =>
      have := ih i (by simpa using h)
      simp only [List.set_cons_succ, sumI_cons, this]
      simp [gi]
      omega
theorem incr_val (b : List Int) (L : List Int) (hn : L.Nodup) (h : ∀ i ∈ L, 0 ≤ i ∧ i < b.length) : sumI (incr b L) = sumI b + L.length ∧ ∀ k : Nat, k < b.length → gi (incr b L) k = gi b k + if (k : Int) ∈ L then 1 else 0 := by
  induction L generalizing b with
  | nil => exact ⟨by simp [incr], fun k hk => by simp [incr]⟩
  | cons x r ih =>
    rw [List.nodup_cons] at hn
    have hx := h x (List.mem_cons_self ..)
    obtain ⟨h1, h2⟩ := ih (b.set x.toNat (gi b x.toNat + 1)) hn.2 (fun i hi => by rw [List.length_set]; exact h i (List.mem_cons_of_mem _ hi))
    have e : incr b (x :: r) = incr (b.set x.toNat (gi b x.toNat + 1)) r := rfl
    rw [e]
    refine ⟨?_, fun k hk => ?_⟩
    · rw [h1, sum_set0 _ _ _ (by omega), List.length_cons]; omega
    · rw [h2 k (by rw [List.length_set]; exact hk), gi_set0 _ _ _ _ (by omega)]
      by_cases hk1 : k = x.toNat
      · have e2 : (k : Int) = x := by omega
        rw [if_pos hk1, e2, if_neg hn.1, if_pos (List.mem_cons_self ..), ← hk1]
        omega
      · rw [if_neg hk1]
        have : ((k : Int) ∈ x :: r) ↔ (k : Int) ∈ r := by
          rw [List.mem_cons]
          exact ⟨fun h => h.resolve_left (by omega), .inr⟩
        simp only [this]
/-- the shares -/
def shV (T : Int) (ws : List Int) : List Int := incr (bI T ws) ((ordV T (sumI ws) ws).take (dI T ws).toNat)
theorem shV_len (T : Int) (ws : List Int) : (shV T ws).length = ws.length := by rw [shV, incr_len, bI_len]
theorem sh_ok {T : Int} {ws : List Int} (h : ShOk T ws) : sumI (shV T ws) = T ∧ ∀ i : Nat, i < ws.length → (gi (shV T ws) i = T * gi ws i / sumI ws ∨ gi (shV T ws) i = T * gi ws i / sumI ws + 1 ∧ 0 < T * gi ws i % sumI ws) := by
  have hbd := rest_bd h
  have hlen := ordV_len T (sumI ws) ws
  have hn : ((ordV T (sumI ws) ws).take (dI T ws).toNat).Nodup := ((List.Perm.nodup_iff (ordV_ok T (sumI ws) ws).1).2 (posI_nodup _)).sublist (List.take_sublist _ _)
  obtain ⟨h1, h2⟩ := incr_val (bI T ws) ((ordV T (sumI ws) ws).take (dI T ws).toNat) hn (fun i hi => by
    rw [bI_len]; exact ord_mem i |>.1 (List.mem_of_mem_take hi))
  refine ⟨?_, fun i hi => ?_⟩
  · unfold shV
    rw [h1, List.length_take]
    unfold dI at *
    omega
  · unfold shV
    rw [h2 i (by rw [bI_len]; exact hi), bI, gi_map _ _ _ hi]
    split
    · rename_i hm
      right
      obtain ⟨k, hk, e⟩ := List.getElem_of_mem hm
      have hk2 : k < (dI T ws).toNat ∧ k < ws.length := by rw [List.length_take] at hk; omega
      have := first_pos h k (by omega)
      have e2 : gi (ordV T (sumI ws) ws) k = i := by
        rw [← e]; simp [gi, show k < (ordV T (sumI ws) ws).length by omega]
      rw [e2, Int.toNat_natCast] at this
      exact ⟨rfl, this⟩
    · left; omega
end Go.Proofs.Ythnphcinjchloaa
namespace Go.Proofs.Ythnphcinjchloaa
open Go.AG Go.Lib Go.Sort

/-- the first of the greatest numbers among the first i -/
def amx (r : List Int) : Nat → Nat
  | 0 => 0
  | i + 1 => if gi r i > gi r (amx r i) then i else amx r i
theorem amx_one (r : List Int) : amx r 1 = 0 := by simp [amx]
theorem amx_lt (r : List Int) (i : Nat) (h : 1 ≤ i) : amx r i < i := by
  induction i with
  | zero => omega
  | succ i ih =>
    rw [amx]
    split
    · omega
    · by_cases e : i = 0
      · subst e; simp [amx]
      · have := ih (by omega); omega
theorem amx_le (r : List Int) (i : Nat) : amx r i ≤ i := by
  by_cases h : 1 ≤ i
  · have := amx_lt r i h; omega
  · have : i = 0 := by omega
    subst this; simp [amx]
theorem amx_ok (r : List Int) (n : Nat) (hn : 1 ≤ n) : (∀ j, j < n → gi r j ≤ gi r (amx r n)) ∧ ∀ j, j < amx r n → gi r j < gi r (amx r n) := by
  induction n with
  | zero => omega
  | succ i ih =>
    rw [amx]
    by_cases e : i = 0
    · subst e
      simp only [amx, gt_iff_lt, Int.lt_irrefl, if_false]
      exact ⟨fun j hj => by rw [show j = 0 by omega]; omega, fun j hj => by omega⟩
    · obtain ⟨h1, h2⟩ := ih (by omega)
      by_cases c : gi r i > gi r (amx r i)
      · rw [if_pos c]
        exact ⟨fun j hj => by
          by_cases e2 : j = i
          · subst e2; omega
          · have := h1 j (by omega); omega, fun j hj => by have := h1 j hj; omega⟩
      · rw [if_neg c]
        exact ⟨fun j hj => by
          by_cases e2 : j = i
          · subst e2; omega
          · exact h1 j (by omega), h2⟩
theorem amx_eq (r : List Int) (n x : Nat) (hx : x < n) (h1 : ∀ j, j < n → gi r j ≤ gi r x) (h2 : ∀ j, j < x → gi r j < gi r x) : amx r n = x := by
  obtain ⟨a1, a2⟩ := amx_ok r n (by omega)
  have l := amx_lt r n (by omega)
  rcases Nat.lt_trichotomy (amx r n) x with h | h | h
  · have := h2 _ h; have := a1 x hx; omega
  · exact h
  · have := a2 _ h; have := h1 _ l; omega
/-- remainders, where those that had one more are marked -/
def mrk (b L : List Int) : List Int := L.foldl (fun b i => b.set i.toNat (-1)) b
theorem mrk_snoc (b L : List Int) (i : Int) : mrk b (L ++ [i]) = (mrk b L).set i.toNat (-1) := by simp [mrk]
theorem mrk_len (b L : List Int) : (mrk b L).length = b.length := by
  induction L generalizing b with
  | nil => rfl
  | cons x r ih => simp only [mrk, List.foldl_cons] at ih ⊢; rw [ih, List.length_set]
theorem mrk_val (b L : List Int) (h : ∀ i ∈ L, 0 ≤ i ∧ i < b.length) : ∀ k : Nat, gi (mrk b L) k = if (k : Int) ∈ L then -1 else gi b k := by
  induction L generalizing b with
  | nil => intro k; simp [mrk]
  | cons x r ih =>
    intro k
    have hx := h x (List.mem_cons_self ..)
    have e : mrk b (x :: r) = mrk (b.set x.toNat (-1)) r := rfl
    rw [e, ih _ (fun i hi => by rw [List.length_set]; exact h i (List.mem_cons_of_mem _ hi)) k, gi_set0 _ _ _ _ (by omega)]
    by_cases c : (k : Int) ∈ r
    · rw [if_pos c, if_pos (List.mem_cons_of_mem _ c)]
    · rw [if_neg c]
      by_cases c2 : k = x.toNat
      · rw [if_pos c2, if_pos (by rw [show (k : Int) = x by omega]; exact List.mem_cons_self ..)]
      · rw [if_neg c2, if_neg (by rw [List.mem_cons]; rintro (g | g); (omega); exact c g)]
def rI (T : Int) (ws : List Int) : List Int := ws.map fun x => T * x % sumI ws
theorem rI_len (T : Int) (ws : List Int) : (rI T ws).length = ws.length := by simp [rI]
/-- the next one is the next one of the order -/
theorem amx_ord {T : Int} {ws : List Int} (h : ShOk T ws) (k : Nat) (hk : k < ws.length) : amx (mrk (rI T ws) ((ordV T (sumI ws) ws).take k)) ws.length = (gi (ordV T (sumI ws) ws) k).toNat := by
  have hs := h.s
  have hlen := ordV_len T (sumI ws) ws
  have hat := ord_at (T := T) (S := sumI ws) (ws := ws) k hk
  have hnd : (ordV T (sumI ws) ws).Nodup := ((List.Perm.nodup_iff (ordV_ok T (sumI ws) ws).1).2 (posI_nodup _))
  have hm := mrk_val (rI T ws) ((ordV T (sumI ws) ws).take k) (fun i hi => by rw [rI_len]; exact ord_mem i |>.1 (List.mem_of_mem_take hi))
  have hr : ∀ j : Nat, j < ws.length → gi (rI T ws) j = T * gi ws j % sumI ws := fun j hj => by rw [rI, gi_map _ _ _ hj]
  have hin : ∀ m, m < ws.length → gi (ordV T (sumI ws) ws) m ∈ (ordV T (sumI ws) ws).take k → m < k := fun m hm1 hm2 => by
    obtain ⟨q, hq, e⟩ := List.getElem_of_mem hm2
    rw [List.length_take] at hq
    rw [List.getElem_take] at e
    have e2 : gi (ordV T (sumI ws) ws) m = (ordV T (sumI ws) ws)[m]'(by omega) := by simp [gi, show m < (ordV T (sumI ws) ws).length by omega]
    rw [e2] at e
    have := (List.getElem_inj hnd).1 e
    omega
  have hnot : ¬ gi (ordV T (sumI ws) ws) k ∈ (ordV T (sumI ws) ws).take k := fun g => by have := hin k hk g; omega
  have eb : gi (mrk (rI T ws) ((ordV T (sumI ws) ws).take k)) (gi (ordV T (sumI ws) ws) k).toNat = T * gi ws (gi (ordV T (sumI ws) ws) k).toNat % sumI ws := by
    rw [hm, if_neg (by rw [Int.toNat_of_nonneg hat.1]; exact hnot), hr _ (by omega)]
  have hnn : ∀ i : Nat, 0 ≤ T * gi ws i % sumI ws := fun i => Int.emod_nonneg _ (by omega)
  have key : ∀ j : Nat, j < ws.length → gi (mrk (rI T ws) ((ordV T (sumI ws) ws).take k)) j ≤ T * gi ws (gi (ordV T (sumI ws) ws) k).toNat % sumI ws ∧ (j < (gi (ordV T (sumI ws) ws) k).toNat → gi (mrk (rI T ws) ((ordV T (sumI ws) ws).take k)) j < T * gi ws (gi (ordV T (sumI ws) ws) k).toNat % sumI ws) := fun j hj => by
    have hp := hnn (gi (ordV T (sumI ws) ws) k).toNat
    rw [hm]
    by_cases c : (j : Int) ∈ (ordV T (sumI ws) ws).take k
    · rw [if_pos c]; omega
    · rw [if_neg c, hr j hj]
      have hmem : (j : Int) ∈ ordV T (sumI ws) ws := (ord_mem _).2 (by omega)
      obtain ⟨m, hm1, e⟩ := List.getElem_of_mem hmem
      have e2 : gi (ordV T (sumI ws) ws) m = (ordV T (sumI ws) ws)[m] := by simp [gi, hm1]
      have hmk : k ≤ m := by
        apply Nat.le_of_not_lt; intro g
        apply c
        rw [← e, List.mem_take_iff_getElem]
        exact ⟨m, by omega, rfl⟩
      by_cases e3 : m = k
      · have ej : (gi (ordV T (sumI ws) ws) k).toNat = j := by rw [← e3, e2, e]; omega
        rw [ej]
        exact ⟨Int.le_refl _, fun h => absurd h (Nat.lt_irrefl _)⟩
      · have ho := (ordV_tot T (sumI ws) ws) k m (by omega) (by omega)
        rw [e2, e, Int.toNat_natCast] at ho
        rw [rmW_eq h, rmW_eq h] at ho
        omega
  refine amx_eq _ _ _ (by omega) (fun j hj => ?_) (fun j hj => ?_)
  · rw [eb]; exact (key j hj).1
  · rw [eb]; exact (key j (by omega)).2 hj
end Go.Proofs.Ythnphcinjchloaa

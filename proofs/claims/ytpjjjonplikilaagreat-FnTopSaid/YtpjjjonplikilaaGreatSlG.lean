/- parts of the proof of the law, sliced: what it needs of the texts DivP, Shr3, Dut3, TopP, Bal5, PutI, Gat4, F6, SluLaw. Conditions: none. -/
import Derived.Test.YtpjjjonplikilaaGreatSlA
import Derived.Test.YtpjjjonplikilaaGreatSlB
import Derived.Test.YtpjjjonplikilaaGreatSlC
import Derived.Test.YtpjjjonplikilaaGreatSlD
import Derived.Test.YtpjjjonplikilaaGreatSlE
import Derived.Test.YtpjjjonplikilaaGreatSlF
import Derived.Test.YtpjjjonplikilaaGreatAgT
import Derived.Test.YtpjjjonplikilaaGreatAgZ
set_option linter.unusedVariables false
set_option linter.unusedSimpArgs false
namespace Go.Proofs.YtpjjjonplikilaaGreat
open Go.AG Go.Lib Go.Sort

structure ShOk (T : Int) (ws : List Int) : Prop where
  t : 0 ≤ T ∧ T ≤ 1000000000
  w : ∀ x ∈ ws, 0 ≤ x ∧ x ≤ 1000000000
  l : ws.length ≤ 60
  s : 0 < sumI ws
theorem gi_mem0 (xs : List Int) (i : Nat) (h : i < xs.length) : gi xs i ∈ xs := by
  simp only [gi, List.getD_eq_getElem?_getD, List.getElem?_eq_getElem h, Option.getD_some]
  exact List.getElem_mem _
theorem mul_bd (T x : Int) (hT : 0 ≤ T ∧ T ≤ 1000000000) (hx : 0 ≤ x ∧ x ≤ 1000000000) : 0 ≤ T * x ∧ T * x ≤ 1000000000000000000 := by
  have h1 := Int.mul_nonneg hT.1 hx.1
  have h2 := Int.mul_le_mul hT.2 hx.2 hx.1 (by omega)
  omega
theorem ShOk.wi {T : Int} {ws : List Int} (h : ShOk T ws) (i : Nat) : 0 ≤ gi ws i ∧ gi ws i ≤ 1000000000 := by
  by_cases hi : i < ws.length
  · exact h.w _ (gi_mem0 ws i hi)
  · simp [gi, List.getD_eq_getElem?_getD, List.getElem?_eq_none (show ws.length ≤ i by omega)]
theorem wrap_small (x : Int) (h : 0 ≤ x ∧ x ≤ 1000000000000000000) : IntKind.wrap .i64 x = x ∧ RowKit.wrap64 x = x := by
  constructor
  · simp [IntKind.wrap, IntKind.bits, IntKind.signed]; omega
  · simp only [RowKit.wrap64]; omega
theorem rmW_eq {T : Int} {ws : List Int} (h : ShOk T ws) (S : Int) (i : Nat) : rmW T S (gi ws i) = T * gi ws i % S := by
  have hb := mul_bd T _ h.t (h.wi i)
  simp only [rmW]
  rw [(wrap_small _ hb).2, Int.tmod_eq_emod_of_nonneg hb.1]
/-- the whole parts, the remainders, the rest -/
def bI (T : Int) (ws : List Int) : List Int := ws.map fun x => T * x / sumI ws
def dI (T : Int) (ws : List Int) : Int := T - sumI (bI T ws)
theorem bI_len (T : Int) (ws : List Int) : (bI T ws).length = ws.length := by simp [bI]
theorem gi_map (f : Int → Int) (xs : List Int) (i : Nat) (h : i < xs.length) : gi (xs.map f) i = f (gi xs i) := by
  simp [gi, List.getD_eq_getElem?_getD, List.getElem?_map, List.getElem?_eq_getElem h]
theorem split_sum (T S : Int) (ws : List Int) : S * sumI (ws.map fun x => T * x / S) + sumI (ws.map fun x => T * x % S) = T * sumI ws := by
  induction ws with
  | nil => simp [sumI_nil]
  | cons x r ih =>
    simp only [List.map_cons, sumI_cons, Int.mul_add]
    have := Int.mul_ediv_add_emod (T * x) S
    omega
theorem rest_sum (T : Int) (ws : List Int) : sumI ws * dI T ws = sumI (ws.map fun x => T * x % sumI ws) := by
  have := split_sum T (sumI ws) ws
  unfold dI bI
  rw [Int.mul_sub, Int.mul_comm (sumI ws) T]
  omega
theorem sumI_perm {xs ys : List Int} (h : xs.Perm ys) : sumI xs = sumI ys := by
  induction h with
  | nil => rfl
  | cons x _ ih => simp only [sumI_cons, ih]
  | swap x y l => simp only [sumI_cons]; omega
  | trans _ _ h1 h2 => rw [h1, h2]
theorem sum_pos {f : Int → Int} (S : Int) (hS : 0 < S) (xs : List Int) (h : ∀ x ∈ xs, 0 ≤ f x ∧ f x < S) : 0 ≤ sumI (xs.map f) ∧ sumI (xs.map f) ≤ (S - 1) * xs.length := by
  induction xs with
  | nil => simp [sumI_nil]
  | cons x r ih =>
    obtain ⟨h1, h2⟩ := ih fun y hy => h y (List.mem_cons_of_mem _ hy)
    have h3 := h x (List.mem_cons_self ..)
    simp only [List.map_cons, sumI_cons, List.length_cons, Int.natCast_add, Int.mul_add]
    omega
theorem sum_zero {f : Int → Int} (xs : List Int) (h : ∀ x ∈ xs, f x = 0) : sumI (xs.map f) = 0 := by
  induction xs with
  | nil => simp [sumI_nil]
  | cons x r ih =>
    simp only [List.map_cons, sumI_cons, ih fun y hy => h y (List.mem_cons_of_mem _ hy), h x (List.mem_cons_self ..)]
    omega
theorem posI_len (n : Nat) : (posI n).length = n := by simp [posI]
theorem mem_posI (n : Nat) (i : Int) : i ∈ posI n ↔ 0 ≤ i ∧ i < n := by
  simp only [posI, List.mem_map, List.mem_range]
  constructor
  · rintro ⟨a, h, rfl⟩; omega
  · rintro ⟨h1, h2⟩; exact ⟨i.toNat, by omega, by omega⟩
theorem map_posI (f : Int → Int) (ws : List Int) : (posI ws.length).map (fun i => f (gi ws i.toNat)) = ws.map f := by
  apply List.ext_getElem (by simp [posI])
  intro i h1 h2
  have h3 : i < ws.length := by simpa using h2
  simp [posI, gi, h3]
theorem posI_nodup (n : Nat) : (posI n).Nodup := by
  unfold posI
  exact List.Pairwise.map _ (fun a b h e => h (by omega)) List.nodup_range
theorem rest_bd {T : Int} {ws : List Int} (h : ShOk T ws) : 0 ≤ dI T ws ∧ dI T ws ≤ ws.length := by
  have h1 := rest_sum T ws
  have h2 := sum_pos (f := fun x => T * x % sumI ws) (sumI ws) h.s ws (fun x hx => ⟨Int.emod_nonneg _ (by have := h.s; omega), Int.emod_lt_of_pos _ h.s⟩)
  rw [← h1] at h2
  have hs := h.s
  constructor
  · rcases Int.lt_or_le (dI T ws) 0 with hd | hd
    · have := Int.mul_neg_of_pos_of_neg hs hd
      omega
    · exact hd
  · rcases Int.lt_or_le (ws.length : Int) (dI T ws) with hd | hd
    · have h3 : sumI ws * ((ws.length : Int) + 1) ≤ sumI ws * dI T ws := Int.mul_le_mul_of_nonneg_left (by omega) (by omega)
      rw [Int.mul_add] at h3
      have h4 : (sumI ws - 1) * (ws.length : Int) = sumI ws * (ws.length : Int) - ws.length := by rw [Int.sub_mul]; omega
      omega
    · exact hd
theorem ord_mem {T S : Int} {ws : List Int} (i : Int) : i ∈ ordV T S ws ↔ 0 ≤ i ∧ i < ws.length := by
  rw [(ordV_ok T S ws).1.mem_iff, mem_posI]
theorem ord_at {T S : Int} {ws : List Int} (k : Nat) (h : k < ws.length) : 0 ≤ gi (ordV T S ws) k ∧ gi (ordV T S ws) k < ws.length := by
  rw [← ord_mem (T := T) (S := S)]
  exact gi_mem0 _ _ (by rw [ordV_len]; exact h)
/-- the first ones, as many as the rest, have remainders -/
theorem first_pos {T : Int} {ws : List Int} (h : ShOk T ws) (j : Nat) (hj : (j : Int) < dI T ws) : 0 < T * gi ws (gi (ordV T (sumI ws) ws) j).toNat % sumI ws := by
  have hbd := rest_bd h
  have hs := h.s
  have hlen := ordV_len T (sumI ws) ws
  obtain ⟨hp, ho⟩ := ordV_ok T (sumI ws) ws
  have hnn : ∀ i : Nat, 0 ≤ T * gi ws i % sumI ws := fun i => Int.emod_nonneg _ (by omega)
  rcases Int.lt_or_le 0 (T * gi ws (gi (ordV T (sumI ws) ws) j).toNat % sumI ws) with h0 | h0
  · exact h0
  exfalso
  have hsum : sumI ((ordV T (sumI ws) ws).map fun i => T * gi ws i.toNat % sumI ws) = sumI ws * dI T ws := by
    rw [rest_sum, sumI_perm (hp.map _)]
    exact congrArg sumI (map_posI (fun x => T * x % sumI ws) ws)
  rw [← List.take_append_drop j (ordV T (sumI ws) ws), List.map_append, sumI_append] at hsum
  have hz : sumI ((List.drop j (ordV T (sumI ws) ws)).map fun i => T * gi ws i.toNat % sumI ws) = 0 := by
    refine sum_zero _ fun x hx => ?_
    obtain ⟨k, hk, rfl⟩ := List.getElem_of_mem hx
    simp only [List.length_drop] at hk
    have e : (List.drop j (ordV T (sumI ws) ws))[k]'(by simp; omega) = gi (ordV T (sumI ws) ws) (j + k) := by simp [gi, show j + k < (ordV T (sumI ws) ws).length by omega]
    rw [e]
    have hnn2 := hnn (gi (ordV T (sumI ws) ws) (j + k)).toNat
    by_cases hk0 : k = 0
    · subst hk0; simp only [Nat.add_zero] at hnn2 ⊢; omega
    · have := ho j (j + k) (by omega) (by omega)
      rw [rmW_eq h, rmW_eq h] at this
      omega
  have hb := sum_pos (f := fun i => T * gi ws i.toNat % sumI ws) (sumI ws) hs (List.take j (ordV T (sumI ws) ws)) (fun x _ => ⟨Int.emod_nonneg _ (by omega), Int.emod_lt_of_pos _ hs⟩)
  have hlt : ((List.take j (ordV T (sumI ws) ws)).length : Int) = j := by rw [List.length_take]; omega
  rw [hlt] at hb
  have h3 : sumI ws * ((j : Int) + 1) ≤ sumI ws * dI T ws := Int.mul_le_mul_of_nonneg_left (by omega) (by omega)
  rw [Int.mul_add] at h3
  have h4 : (sumI ws - 1) * (j : Int) = sumI ws * (j : Int) - j := by rw [Int.sub_mul]; omega
  omega
/-- one more at each of these places -/
def incr (b L : List Int) : List Int := L.foldl (fun b i => b.set i.toNat (gi b i.toNat + 1)) b
theorem incr_snoc (b L : List Int) (i : Int) : incr b (L ++ [i]) = (incr b L).set i.toNat (gi (incr b L) i.toNat + 1) := by simp [incr]
theorem incr_len (b L : List Int) : (incr b L).length = b.length := by
  induction L generalizing b with
  | nil => rfl
  | cons x r ih => simp only [incr, List.foldl_cons] at ih ⊢; rw [ih, List.length_set]
theorem gi_set0 (b : List Int) (i k : Nat) (v : Int) (h : i < b.length) : gi (b.set i v) k = if k = i then v else gi b k := by
  simp only [gi, List.getD_eq_getElem?_getD, List.getElem?_set]
  by_cases e : i = k
  · subst e; simp [h]
  · simp [e, Ne.symm e]
theorem sum_set0 (b : List Int) (i : Nat) (v : Int) (h : i < b.length) : sumI (b.set i v) = sumI b - gi b i + v := by
  induction b generalizing i with
  | nil => simp at h
  | cons x r ih =>
    cases i with
    | zero => simp [sumI_cons, gi]; omega
    | succ i =>
      have := ih i (by simpa using h)
      simp only [List.set_cons_succ, sumI_cons, this]
      simp [gi]
      omega
theorem incr_val (b : List Int) (L : List Int) (hn : L.Nodup) (h : ∀ i ∈ L, 0 ≤ i ∧ i < b.length) : sumI (incr b L) = sumI b + L.length ∧ ∀ k : Nat, k < b.length → gi (incr b L) k = gi b k + if (k : Int) ∈ L then 1 else 0 := by
  induction L generalizing b with
  | nil => exact ⟨by simp [incr], fun k hk => by simp [incr]⟩
  | cons x r ih =>
    rw [List.nodup_cons] at hn
    have hx := h x (List.mem_cons_self ..)
    obtain ⟨h1, h2⟩ := ih (b.set x.toNat (gi b x.toNat + 1)) hn.2 (fun i hi => by rw [List.length_set]; exact h i (List.mem_cons_of_mem _ hi))
    have e : incr b (x :: r) = incr (b.set x.toNat (gi b x.toNat + 1)) r := rfl
    rw [e]
    refine ⟨?_, fun k hk => ?_⟩
    · rw [h1, sum_set0 _ _ _ (by omega), List.length_cons]; omega
    · rw [h2 k (by rw [List.length_set]; exact hk), gi_set0 _ _ _ _ (by omega)]
      by_cases hk1 : k = x.toNat
      · have e2 : (k : Int) = x := by omega
        rw [if_pos hk1, e2, if_neg hn.1, if_pos (List.mem_cons_self ..), ← hk1]
        omega
      · rw [if_neg hk1]
        have : ((k : Int) ∈ x :: r) ↔ (k : Int) ∈ r := by
          rw [List.mem_cons]
          exact ⟨fun h => h.resolve_left (by omega), .inr⟩
        simp only [this]
/-- the shares -/
def shV (T : Int) (ws : List Int) : List Int := incr (bI T ws) ((ordV T (sumI ws) ws).take (dI T ws).toNat)
theorem shV_len (T : Int) (ws : List Int) : (shV T ws).length = ws.length := by rw [shV, incr_len, bI_len]
theorem sh_ok {T : Int} {ws : List Int} (h : ShOk T ws) : sumI (shV T ws) = T ∧ ∀ i : Nat, i < ws.length → (gi (shV T ws) i = T * gi ws i / sumI ws ∨ gi (shV T ws) i = T * gi ws i / sumI ws + 1 ∧ 0 < T * gi ws i % sumI ws) := by
  have hbd := rest_bd h
  have hlen := ordV_len T (sumI ws) ws
  have hn : ((ordV T (sumI ws) ws).take (dI T ws).toNat).Nodup := ((List.Perm.nodup_iff (ordV_ok T (sumI ws) ws).1).2 (posI_nodup _)).sublist (List.take_sublist _ _)
  obtain ⟨h1, h2⟩ := incr_val (bI T ws) ((ordV T (sumI ws) ws).take (dI T ws).toNat) hn (fun i hi => by
    rw [bI_len]; exact ord_mem i |>.1 (List.mem_of_mem_take hi))
  refine ⟨?_, fun i hi => ?_⟩
  · unfold shV
    rw [h1, List.length_take]
    unfold dI at *
    omega
  · unfold shV
    rw [h2 i (by rw [bI_len]; exact hi), bI, gi_map _ _ _ hi]
    split
    · rename_i hm
      right
      obtain ⟨k, hk, e⟩ := List.getElem_of_mem hm
      have hk2 : k < (dI T ws).toNat ∧ k < ws.length := by rw [List.length_take] at hk; omega
      have := first_pos h k (by omega)
      have e2 : gi (ordV T (sumI ws) ws) k = i := by
        rw [← e]; simp [gi, show k < (ordV T (sumI ws) ws).length by omega]
      rw [e2, Int.toNat_natCast] at this
      exact ⟨rfl, this⟩
    · left; omega
end Go.Proofs.YtpjjjonplikilaaGreat
namespace Go.Proofs.YtpjjjonplikilaaGreat
open Go.AG Go.Lib Go.Sort

end Go.Proofs.YtpjjjonplikilaaGreat
namespace Go.Proofs.YtpjjjonplikilaaGreat
open Go.AG Go.Lib

theorem bI_take (T : Int) (ws : List Int) (k : Nat) (h : k < ws.length) : (bI T ws).take (k + 1) = (bI T ws).take k ++ [T * gi ws k / sumI ws] := by
  rw [take_succ_gi _ _ (by rw [bI_len]; exact h), bI, gi_map _ _ _ h]
@[local go_sem] theorem posI_zero : posI 0 = [] := by simp [posI]
@[local go_sem] theorem posI_back (k : Nat) : posI k ++ [(k : Int)] = posI (k + 1) := by simp [posI, List.range_succ]
@[local go_sem] theorem incr_nil (b : List Int) : incr b [] = b := rfl
theorem mem_le_sum (xs : List Int) (h : ∀ x ∈ xs, 0 ≤ x) : 0 ≤ sumI xs ∧ ∀ x ∈ xs, x ≤ sumI xs := by
  induction xs with
  | nil => exact ⟨by simp [sumI_nil], fun x hx => absurd hx (by simp)⟩
  | cons y r ih =>
    obtain ⟨h1, h2⟩ := ih fun x hx => h x (List.mem_cons_of_mem _ hx)
    have hy := h y (List.mem_cons_self ..)
    rw [sumI_cons]
    refine ⟨by omega, fun x hx => ?_⟩
    rcases List.mem_cons.1 hx with rfl | hx
    · omega
    · have := h2 x hx; omega
theorem base_le {T : Int} {ws : List Int} (h : ShOk T ws) (y : Int) (hy : y ∈ ws) : T * y / sumI ws ≤ T := by
  have h1 := (mem_le_sum ws fun x hx => (h.w x hx).1).2 y hy
  exact Int.ediv_le_of_le_mul h.s (Int.mul_le_mul_of_nonneg_left h1 h.t.1)
theorem incr_take (b L : List Int) (k : Nat) (h : k < L.length) : incr b (L.take (k + 1)) = (incr b (L.take k)).set (gi L k).toNat (gi (incr b (L.take k)) (gi L k).toNat + 1) := by
  rw [take_succ_gi _ _ h, incr_snoc]
theorem incr_bd {T : Int} {ws : List Int} (h : ShOk T ws) (j i : Nat) (hi : i < ws.length) : 0 ≤ gi (incr (bI T ws) ((ordV T (sumI ws) ws).take j)) i ∧ gi (incr (bI T ws) ((ordV T (sumI ws) ws).take j)) i ≤ T + 1 := by
  have hn : ((ordV T (sumI ws) ws).take j).Nodup := ((List.Perm.nodup_iff (ordV_ok T (sumI ws) ws).1).2 (posI_nodup _)).sublist (List.take_sublist _ _)
  obtain ⟨_, h2⟩ := incr_val (bI T ws) ((ordV T (sumI ws) ws).take j) hn (fun i hi => by
    rw [bI_len]; exact ord_mem i |>.1 (List.mem_of_mem_take hi))
  rw [h2 i (by rw [bI_len]; exact hi), bI, gi_map _ _ _ hi]
  have hb := mul_bd T _ h.t (h.wi i)
  have hs := h.s
  have h3 := Int.ediv_nonneg hb.1 (show 0 ≤ sumI ws by omega)
  have h4 := base_le h _ (gi_mem0 ws i hi)
  split <;> omega
theorem shareOut_ok (T : Int) (ws : List Int) (h : ShOk T ws) (hl : 1 ≤ ws.length ∧ ws.length ≤ 60) : ACalls Tryz.prog 55 [I T, iS ws] [] (fun r o => r = .ref 0 0 ws.length ∧ o = [oI (shV T ws)]) := by
  have hsum := sum_ok ws (by omega)
  have hS : wsum ws = sumI ws := (wsum_eq ws 1000000000 (by omega) (fun x hx => by have := h.w x hx; omega) (by omega)).1
  have hSp := h.s
  rw [hS] at hsum
  have hsort := sortOrd_ok T (sumI ws) h.s ws (by omega)
  refine ACalls.of_vc Tryz.func55 rfl (by decide) 59 rfl [.tmp 4] rfl (by simp) ?_
  (repeat (first | simp (maxSteps := 2000000) (disch := omega) only [go_sem, ↓reduceIte] | with_reducible refine vIf_t ?_ | with_reducible refine vIf_f ?_))
  (refine vCallX_of ?_; (repeat (first | simp (maxSteps := 2000000) (disch := omega) only [go_sem, ↓reduceIte] | with_reducible refine vIf_t ?_ | with_reducible refine vIf_f ?_)); refine vCall_eq (hsum) (by simp (disch := omega) only [go_sem]) rfl (by first | exact Or.inl rfl | exact Or.inr ⟨rfl, rfl⟩ | (apply Or.inr; simp only [go_sem])) ?_; (repeat (first | simp (maxSteps := 2000000) (disch := omega) only [go_sem, ↓reduceIte] | with_reducible refine vIf_t ?_ | with_reducible refine vIf_f ?_)))
  refine vcLoop_invF (fun k : Nat => k ≤ ws.length) (fun k => ⟨59, 0, [(18, I k), (17, I ws.length), (16, .sl ws.length (ints ws)), (2, .ptr 0 0), (3, .ptr 1 0), (5, .ptr 2 0), (6, .ref 3 0 k), (7, .ptr 4 0)], [some ⟨1, [I T]⟩, some ⟨1, [.sl ws.length (ints ws)]⟩, some ⟨1, [I (sumI ws)]⟩, oI ((bI T ws).take k), some ⟨1, [.ref 5 0 k]⟩, oI (posI k)]⟩) (fun k => ws.length - k) 0 (by omega) (by (first | (refine leF_s ?_; ((repeat (first | simp (maxSteps := 2000000) (disch := omega) only [go_sem, ↓reduceIte] | with_reducible refine vIf_t ?_ | with_reducible refine vIf_f ?_)); all_goals (try simp); all_goals (try omega)); done) | (refine leF_p ?_; ((repeat (first | simp (maxSteps := 2000000) (disch := omega) only [go_sem, ↓reduceIte] | with_reducible refine vIf_t ?_ | with_reducible refine vIf_f ?_)); all_goals (try simp); all_goals (try omega)); done))) ?_
  intro k hk
  have l1 : (posI k).length = k := posI_len k
  have l2 : ((bI T ws).take k).length = k := by rw [List.length_take, bI_len]; omega
  (repeat (first | simp (maxSteps := 2000000) (disch := omega) only [go_sem, ↓reduceIte] | with_reducible refine vIf_t ?_ | with_reducible refine vIf_f ?_))
  refine vIf_dec (fun hh => ?_) (fun hh => ?_)
  · have hb := mul_bd T _ h.t (h.wi k)
    have e1 : (IntKind.wrap .i64 (T * gi ws k)) = T * gi ws k := (wrap_small _ hb).1
    have e2 := Int.tdiv_eq_ediv_of_nonneg (a := T * gi ws k) (b := sumI ws) hb.1
    have e0 : sumI ws ≠ 0 := by omega
    have e3 : IntKind.wrap .i64 (T * gi ws k / sumI ws) = T * gi ws k / sumI ws := (wrap_small _ ⟨Int.ediv_nonneg hb.1 (by omega), by have := Int.ediv_le_self (sumI ws) hb.1; omega⟩).1
    have l3 : min k (bI T ws).length = k := by rw [bI_len]; omega
    have l4 := bI_take T ws k (by omega)
    (repeat (first | simp (maxSteps := 2000000) (disch := omega) only [go_sem, ↓reduceIte] | with_reducible refine vIf_t ?_ | with_reducible refine vIf_f ?_))
    (refine vDraw_tr 11 (.rd 0 (.rd 1 (.rd 2 (.rd 3 (.rd 4 (.rd 5 (.rd 8 (.rd 9 (.alt 6 (.alt 7 (.alt 10 (.done) (.stop)) (.alt 10 (.alt 7 (.done) (.stop)) (.stop))) (.alt 10 (.alt 6 (.alt 7 (.done) (.stop)) (.stop)) (.stop))))))))))) (fun _ : Unit => True) (fun _ => ⟨59, 0, [(18, I k), (17, I ws.length), (16, .sl ws.length (ints ws)), (2, .ptr 0 0), (3, .ptr 1 0), (5, .ptr 2 0), (30, .ref 3 0 (k + 1)), (7, .ptr 4 0), (31, .ref 5 0 k), (33, .ref 6 0 1)], [some ⟨1, [I T]⟩, some ⟨1, [.sl ws.length (ints ws)]⟩, some ⟨1, [I (sumI ws)]⟩, oI ((bI T ws).take (k + 1)), some ⟨1, [.ref 5 0 k]⟩, oI (posI k), oI [(k : Int)]]⟩) mixed (by kernel_rfl) ?_ ?_)
    · (repeat (first | simp (maxSteps := 2000000) (disch := omega) only [go_sem, ↓reduceIte, e1, e2, e3, l1, l2, l3, l4] | with_reducible refine vIf_t ?_ | with_reducible refine vIf_f ?_))
      repeat' (first | refine And.intro ?_ ?_ | (refine ⟨(), _, Frz.refl _, Or.inr ?_⟩; (repeat (first | simp (maxSteps := 2000000) (disch := omega) only [go_sem, ↓reduceIte, e1, e2, e3, l1, l2, l3, l4] | with_reducible refine vIf_t ?_ | with_reducible refine vIf_f ?_))))
    intro _ _
    simp only [List.drop_succ_cons, List.drop_zero, List.drop_nil]
    (repeat (first | simp (maxSteps := 2000000) (disch := omega) only [go_sem, ↓reduceIte, l1] | with_reducible refine vIf_t ?_ | with_reducible refine vIf_f ?_))
    refine againF (k + 1) ?_ ?_ (by (first | (refine leF_s ?_; ((repeat (first | simp (maxSteps := 2000000) (disch := omega) only [go_sem, ↓reduceIte] | with_reducible refine vIf_t ?_ | with_reducible refine vIf_f ?_)); all_goals (try simp); all_goals (try omega)); done) | (refine leF_p ?_; ((repeat (first | simp (maxSteps := 2000000) (disch := omega) only [go_sem, ↓reduceIte] | with_reducible refine vIf_t ?_ | with_reducible refine vIf_f ?_)); all_goals (try simp); all_goals (try omega)); done)))
    · omega
    · omega
  · have hke : k = ws.length := by omega
    subst hke
    simp only [shCaps, shRest] at hsort
    unfold iS at hsort
    (repeat (first | simp (maxSteps := 2000000) (disch := omega) only [go_sem, ↓reduceIte] | with_reducible refine vIf_t ?_ | with_reducible refine vIf_f ?_))
    (refine vCallX_io [5, 0, 1, 4, 2] ?_; (repeat (first | simp (maxSteps := 2000000) (disch := omega) only [go_sem, ↓reduceIte] | with_reducible refine vIf_t ?_ | with_reducible refine vIf_f ?_)); refine vCallIO_eq (hsort) (by simp (disch := omega) only [go_sem]) (by simp (disch := omega) only [go_sem]) (by first | rfl | (simp (disch := omega) only [go_sem])) (by first | rfl | (simp (disch := omega) only [go_sem])) (by first | rfl | (simp (disch := omega) only [go_sem])) (by first | (simp (disch := omega) only [go_sem]) | skip) ?_; (repeat (first | simp (maxSteps := 2000000) (disch := omega) only [go_sem, ↓reduceIte] | with_reducible refine vIf_t ?_ | with_reducible refine vIf_f ?_)))
    have hs2 := sum_ok (bI T ws) (by rw [bI_len]; omega)
    have hd := rest_bd h
    have e5 : (bI T ws).take ws.length = bI T ws := List.take_of_length_le (by rw [bI_len]; omega)
    have e6 : wsum (bI T ws) = sumI (bI T ws) := (wsum_eq _ 1000000000 (by omega) (fun x hx => by
      obtain ⟨y, hy, rfl⟩ := List.mem_map.1 hx
      have hb := mul_bd T y h.t (h.w y hy)
      have h1 := Int.ediv_nonneg hb.1 (show 0 ≤ sumI ws by omega)
      have h2 := base_le h y hy
      have := h.t
      omega) (by rw [bI_len]; omega)).1
    have e7 : IntKind.wrap .i64 (T - sumI (bI T ws)) = dI T ws := (wrap_small (dI T ws) ⟨hd.1, by omega⟩).1
    rw [e6] at hs2
    unfold iS at hs2
    rw [bI_len] at hs2
    have hs3 : ACalls Tryz.prog 93 [.sl ws.length (ints ((bI T ws).take ws.length))] [] (fun r o => r = I (sumI (bI T ws)) ∧ o = []) := by rw [e5]; exact hs2
    (repeat (first | simp (maxSteps := 2000000) (disch := omega) only [go_sem, ↓reduceIte, e5] | with_reducible refine vIf_t ?_ | with_reducible refine vIf_f ?_))
    (refine vDraw_sch 8 [(2, false), (7, false), (0, false), (1, false), (3, false), (4, false), (5, false), (6, false)] mixed (by kernel_rfl) ?_; simp only [List.cons_append, List.nil_append, List.map_cons, List.map_nil, nthO_zero, nthO_succ, List.drop_succ_cons, List.drop_zero, List.drop_nil]; (repeat (first | simp (maxSteps := 2000000) (disch := omega) only [go_sem, ↓reduceIte] | with_reducible refine vIf_t ?_ | with_reducible refine vIf_f ?_)))
    (refine vsCallX_of ?_; (try (repeat (first | simp (maxSteps := 2000000) (disch := omega) only [go_sem, ↓reduceIte] | with_reducible refine vIf_t ?_ | with_reducible refine vIf_f ?_))); refine vCall_eq (hs3) (by simp (disch := omega) only [go_sem]) rfl (by first | exact Or.inl rfl | exact Or.inr ⟨rfl, rfl⟩ | (apply Or.inr; simp only [go_sem])) ?_; (try (repeat (first | simp (maxSteps := 2000000) (disch := omega) only [go_sem, ↓reduceIte] | with_reducible refine vIf_t ?_ | with_reducible refine vIf_f ?_))))
    (repeat (first | simp (maxSteps := 2000000) (disch := omega) only [go_sem, ↓reduceIte, e7] | with_reducible refine vIf_t ?_ | with_reducible refine vIf_f ?_))
    have hd2 : (dI T ws).toNat ≤ ws.length := by omega
    have ol := ordV_len T (sumI ws) ws
    refine vcLoop_invF (fun j : Nat => j ≤ (dI T ws).toNat) (fun j => ⟨59, 0, [(47, I j), (46, I (dI T ws).toNat), (6, .ref 0 0 ws.length), (45, .ref 1 0 (dI T ws).toNat)], [oI (incr (bI T ws) ((ordV T (sumI ws) ws).take j)), oI (ordV T (sumI ws) ws)]⟩) (fun j => (dI T ws).toNat - j) 0 (by omega) (by (first | (refine leF_s ?_; ((repeat (first | simp (maxSteps := 2000000) (disch := omega) only [go_sem, ↓reduceIte] | with_reducible refine vIf_t ?_ | with_reducible refine vIf_f ?_)); all_goals (try simp); all_goals (try omega)); done) | (refine leF_p ?_; ((repeat (first | simp (maxSteps := 2000000) (disch := omega) only [go_sem, ↓reduceIte] | with_reducible refine vIf_t ?_ | with_reducible refine vIf_f ?_)); all_goals (try simp); all_goals (try omega)); done))) ?_
    intro j hj
    (repeat (first | simp (maxSteps := 2000000) (disch := omega) only [go_sem, ↓reduceIte] | with_reducible refine vIf_t ?_ | with_reducible refine vIf_f ?_))
    refine vIf_dec (fun hh => ?_) (fun hh => ?_)
    · have oa := ord_at (T := T) (S := sumI ws) (ws := ws) j (by omega)
      have hil : (incr (bI T ws) ((ordV T (sumI ws) ws).take j)).length = ws.length := by rw [incr_len, bI_len]
      have ht := incr_take (bI T ws) (ordV T (sumI ws) ws) j (by omega)
      have hw1 : IntKind.wrap .i64 (gi (incr (bI T ws) ((ordV T (sumI ws) ws).take j)) (gi (ordV T (sumI ws) ws) j).toNat + 1) = gi (incr (bI T ws) ((ordV T (sumI ws) ws).take j)) (gi (ordV T (sumI ws) ws) j).toNat + 1 := by
        have hb := incr_bd h j (gi (ordV T (sumI ws) ws) j).toNat (by omega)
        have := h.t
        exact (wrap_small _ ⟨by omega, by omega⟩).1
      (repeat (first | simp (maxSteps := 2000000) (disch := omega) only [go_sem, ↓reduceIte, hil, hw1, ← ht] | with_reducible refine vIf_t ?_ | with_reducible refine vIf_f ?_))
      refine againF (j + 1) ?_ ?_ (by (first | (refine leF_s ?_; ((repeat (first | simp (maxSteps := 2000000) (disch := omega) only [go_sem, ↓reduceIte] | with_reducible refine vIf_t ?_ | with_reducible refine vIf_f ?_)); all_goals (try simp); all_goals (try omega)); done) | (refine leF_p ?_; ((repeat (first | simp (maxSteps := 2000000) (disch := omega) only [go_sem, ↓reduceIte] | with_reducible refine vIf_t ?_ | with_reducible refine vIf_f ?_)); all_goals (try simp); all_goals (try omega)); done)))
      · omega
      · omega
    · (repeat (first | simp (maxSteps := 2000000) (disch := omega) only [go_sem, ↓reduceIte] | with_reducible refine vIf_t ?_ | with_reducible refine vIf_f ?_))
      (refine retK_of ?_; (repeat (first | simp (maxSteps := 2000000) (disch := omega) only [go_sem, ↓reduceIte] | with_reducible refine vIf_t ?_ | with_reducible refine vIf_f ?_)))
      rw [shV, show j = (dI T ws).toNat by omega]
end Go.Proofs.YtpjjjonplikilaaGreat
namespace Go.Proofs.YtpjjjonplikilaaGreat
open Go.AG Go.Lib

/-! the shares of a dike -/
structure ShF (sh : List Int) (L : Int) : Prop where
  n : sh.length = 40
  nn : ∀ i, i < 40 → 0 ≤ gi sh i
  s : sumI sh = L
  l : 1 ≤ L ∧ L ≤ 300000
def sp (sh : List Int) (k : Nat) : Int := sumI (sh.take k)
@[go_sem] theorem sp_zero (sh : List Int) : sp sh 0 = 0 := by simp [sp, sumI_nil]
theorem sp_succ (sh : List Int) (k : Nat) (h : k < sh.length) : sp sh (k + 1) = sp sh k + gi sh k := by
  unfold sp
  rw [take_succ_gi _ _ h, sumI_append, sumI_cons, sumI_nil]; omega
theorem ShF.bd {sh : List Int} {L : Int} (F : ShF sh L) (k : Nat) (hk : k ≤ 40) : 0 ≤ sp sh k ∧ sp sh k ≤ L := by
  have hm : ∀ x ∈ sh, 0 ≤ x := fun x hx => by
    obtain ⟨i, hi, rfl⟩ := List.mem_iff_getElem.1 hx
    rw [← gi_lt sh i hi]; exact F.nn i (by rw [← F.n]; exact hi)
  have h1 := (mem_le_sum (sh.take k) fun x hx => hm x (List.mem_of_mem_take hx)).1
  have h2 := (mem_le_sum (sh.drop k) fun x hx => hm x (List.mem_of_mem_drop hx)).1
  have h3 : sumI (sh.take k ++ sh.drop k) = sumI (sh.take k) + sumI (sh.drop k) := sumI_append _ _
  rw [List.take_append_drop, F.s] at h3
  unfold sp
  omega
theorem ShF.le {sh : List Int} {L : Int} (F : ShF sh L) (i : Nat) (hi : i < 40) : gi sh i ≤ 300000 := by
  have h1 := F.bd i (by omega)
  have h2 := F.bd (i + 1) (by omega)
  have := sp_succ sh i (by rw [F.n]; exact hi)
  have := F.l
  omega
theorem arO_sh {ps : List Pc} (h : okP ps = true) (hn : 0 < ps.length) (L : Int) (hL : 1 ≤ L ∧ L ≤ 300000) : ShOk L (arO ps) := by
  obtain ⟨h1, h2, _⟩ := okP_all h
  have hv := acc_val Pc.owner Pc.area 40 10000000 (by omega) ps (fun p hp => by have := (h2 p hp).2.1; omega) (fun p hp => by have := (h2 p hp).2.2.1; omega) (by omega)
  have hs : sumI (arO ps) = sumI (ps.map Pc.area) := hv.2
  have hp0 : 0 < sumI (ps.map Pc.area) := by
    have hm := gPc_mem ps 0 hn
    have := (mem_le_sum (ps.map Pc.area) (fun x hx => by obtain ⟨p, hp, rfl⟩ := List.mem_map.1 hx; have := (h2 p hp).2.2.1; omega)).2 (gPc ps 0).area (List.mem_map.2 ⟨_, hm, rfl⟩)
    have := (h2 _ hm).2.2.1
    omega
  refine ⟨by omega, fun x hx => ?_, by rw [arO_len]; omega, by omega⟩
  obtain ⟨j, hj, rfl⟩ := List.mem_iff_getElem.1 hx
  rw [← gi_lt _ _ hj]
  have hj4 : j < 40 := by rw [arO_len] at hj; exact hj
  have e : gi (arO ps) j = sumI ((ps.filter fun p => decide (p.owner = (j : Int))).map Pc.area) := hv.1 j hj4
  rw [e]
  have := sumI_map_bd Pc.area 10000000 (by omega) (ps.filter fun p => decide (p.owner = (j : Int))) (fun p hp => by have := (h2 p (List.mem_filter.1 hp).1).2.2.1; omega)
  have := List.length_filter_le (fun p : Pc => decide (p.owner = (j : Int))) ps
  omega
@[go_sem] theorem take_arO (ps : List Pc) : (arO ps).take 40 = arO ps := List.take_of_length_le (by rw [arO_len]; omega)
def shD (ps : List Pc) (L : Int) : List Int := shV L (arO ps)
theorem shD_ok {ps : List Pc} (h : okP ps = true) (hn : 0 < ps.length) (L : Int) (hL : 1 ≤ L ∧ L ≤ 300000) : ShF (shD ps L) L := by
  have S := arO_sh h hn L hL
  have hs := sh_ok S
  have hlen : (arO ps).length = 40 := arO_len ps
  refine ⟨by unfold shD; rw [shV_len, hlen], fun i hi => ?_, hs.1, hL⟩
  have hb := mul_bd L _ S.t (S.wi i)
  have h3 := Int.ediv_nonneg hb.1 (show 0 ≤ sumI (arO ps) by have := S.s; omega)
  unfold shD
  rcases hs.2 i (by omega) with h5 | ⟨h5, _⟩ <;> omega
theorem shares_ok (ps : List Pc) (h : okP ps = true) (hn : 0 < ps.length) (L : Int) (hL : 1 ≤ L ∧ L ≤ 300000) : ACalls Tryz.prog 55 [I L, .sl 40 (ints (arO ps))] [] (fun r o => r = .ref 0 0 40 ∧ o = [oI (shD ps L)]) := by
  have := shareOut_ok L (arO ps) (arO_sh h hn L hL) (by rw [arO_len]; omega)
  unfold iS at this
  rw [arO_len] at this
  exact this
def dvL (sh : List Int) : Nat → List Du
  | 0 => []
  | k + 1 => dvL sh k ++ (if 0 < gi sh k then [⟨k, sp sh k, sp sh k + gi sh k⟩] else [])
@[go_sem] theorem dvL_zero (sh : List Int) : dvL sh 0 = [] := _root_.id rfl
theorem dvL_len (sh : List Int) (k : Nat) : (dvL sh k).length ≤ k := by
  induction k with
  | zero => simp [dvL]
  | succ k ih => simp only [dvL, List.length_append]; split <;> simp <;> omega
theorem atD_app (ds es : List Du) (k : Nat) (h : k ≤ ds.length) : atD (ds ++ es) k = atD ds k := by
  unfold atD
  split
  · rfl
  · rw [gDu_app_l _ _ _ (by omega)]
theorem doK_app (ds es : List Du) (o : Int) (k : Nat) (h : k ≤ ds.length) : doK (ds ++ es) o k = doK ds o k := by
  induction k with
  | zero => rfl
  | succ k ih => simp only [doK]; rw [ih (by omega), gDu_app_l _ _ _ (by omega)]
structure DvP (sh : List Int) (ds : List Du) (k : Nat) : Prop where
  e : atD ds ds.length = sp sh k
  p : ∀ j, j < ds.length → duP ds j
  o : ∀ j, j < ds.length → (gDu ds j).owner < k ∧ (gDu ds j).tw - (gDu ds j).fr = gi sh (gDu ds j).owner.toNat
  d : ∀ i : Nat, doK ds i ds.length = if i < k then gi sh i else 0
theorem dvP_ok {sh : List Int} {L : Int} (F : ShF sh L) (k : Nat) (hk : k ≤ 40) : DvP sh (dvL sh k) k := by
  induction k with
  | zero => exact ⟨by simp [dvL, atD_zero, sp_zero], fun j hj => by simp [dvL] at hj, fun j hj => by simp [dvL] at hj, fun i => by simp [dvL, doK]⟩
  | succ k ih =>
    have P := ih (by omega)
    have hnn := F.nn k (by omega)
    have hsp := sp_succ sh k (by rw [F.n]; omega)
    simp only [dvL]
    by_cases h0 : 0 < gi sh k
    · rw [if_pos h0]
      generalize hds : dvL sh k = ds at *
      have hg : gDu (ds ++ [⟨k, sp sh k, sp sh k + gi sh k⟩]) ds.length = ⟨k, sp sh k, sp sh k + gi sh k⟩ := by rw [gDu_app_r _ _ _ (Nat.le_refl _)]; simp [gDu]
      have hl : (ds ++ [(⟨k, sp sh k, sp sh k + gi sh k⟩ : Du)]).length = ds.length + 1 := by simp
      refine ⟨?_, fun j hj => ?_, fun j hj => ?_, fun i => ?_⟩
      · rw [hl, atD_succ, hg]; simp only; omega
      · rw [hl] at hj
        by_cases e : j = ds.length
        · unfold duP
          rw [e, atD_app _ _ _ (Nat.le_refl _), hg, P.e]
          exact ⟨⟨by simp only; omega, by simp only; omega⟩, rfl, by simp only; omega⟩
        · have := P.p j (by omega)
          unfold duP at this ⊢
          rw [atD_app _ _ _ (by omega), gDu_app_l _ _ _ (by omega)]
          exact this
      · rw [hl] at hj
        by_cases e : j = ds.length
        · rw [e, hg]
          simp only [Int.toNat_natCast]
          omega
        · have := P.o j (by omega)
          rw [gDu_app_l _ _ _ (by omega)]
          omega
      · rw [hl]
        simp only [doK]
        rw [doK_app _ _ _ _ (Nat.le_refl _), P.d, hg]
        simp only
        by_cases e : i = k
        · subst e; rw [if_pos rfl, if_neg (by omega), if_pos (by omega)]; omega
        · rw [if_neg (show ¬ (k : Int) = i by omega)]
          by_cases e2 : i < k
          · rw [if_pos e2, if_pos (by omega)]; omega
          · rw [if_neg e2, if_neg (by omega)]; omega
    · rw [if_neg h0, List.append_nil]
      have hz : gi sh k = 0 := by omega
      refine ⟨by rw [P.e]; omega, P.p, fun j hj => by have := P.o j hj; omega, fun i => ?_⟩
      rw [P.d]
      by_cases e : i = k
      · subst e; simp [hz]
      · by_cases e2 : i < k
        · rw [if_pos e2, if_pos (by omega)]
        · rw [if_neg e2, if_neg (by omega)]
theorem dv_VD {sh : List Int} {L : Int} (F : ShF sh L) : VD (dvL sh 40) L := by
  have P := dvP_ok F 40 (Nat.le_refl _)
  have hl := dvL_len sh 40
  have hs : sp sh 40 = L := by unfold sp; rw [List.take_of_length_le (by rw [F.n]; omega), F.s]
  have he := P.e
  rw [hs] at he
  refine ⟨F.l, ⟨?_, hl⟩, he, P.p⟩
  apply Nat.le_of_not_lt; intro g
  rw [show (dvL sh 40).length = 0 by omega, atD_zero] at he
  have := F.l
  omega
def ddC (ps : List Pc) (L : Int) : Int := if okP ps = true then if 1 ≤ L ∧ L ≤ 300000 then if ps.length = 0 then 3 else 0 else 2 else 1
theorem ddC_ok {ps : List Pc} {L : Int} (h : ddC ps L = 0) : okP ps = true ∧ (1 ≤ L ∧ L ≤ 300000) ∧ 0 < ps.length := by
  unfold ddC at h
  split at h
  case isFalse => omega
  rename_i h1
  split at h
  case isFalse => omega
  rename_i h2
  split at h
  · omega
  · exact ⟨h1, h2, by omega⟩
set_option maxHeartbeats 4000000 in
theorem divideD_ok (ps : List Pc) (L : Int) (hl : ps.length ≤ 10000000) : ACalls Tryz.prog 21 [.sl ps.length (cPc ps), I L] []
    (fun r o => if ddC ps L = 0 then r = .tup [.ref 0 0 (dvL (shD ps L) 40).length, I 0] ∧ o = [some ⟨3, cDu (dvL (shD ps L) 40)⟩] else r = .tup [.ref 0 0 0, I (ddC ps L)] ∧ o = [some ⟨3, []⟩]) := by
  refine ACalls.of_vc Tryz.func21 rfl (by decide) 52 rfl [.tmp 4, .tmp 5] rfl (by simp) ?_
  (repeat (first | simp (maxSteps := 2000000) (disch := omega) only [go_sem, ↓reduceIte] | with_reducible refine vIf_t ?_ | with_reducible refine vIf_f ?_))
  (refine vCallX_of ?_; (repeat (first | simp (maxSteps := 2000000) (disch := omega) only [go_sem, ↓reduceIte] | with_reducible refine vIf_t ?_ | with_reducible refine vIf_f ?_)); refine vCall_eq (validP_ok ps hl) (by simp (disch := omega) only [go_sem]) rfl (by first | exact Or.inl rfl | exact Or.inr ⟨rfl, rfl⟩ | (apply Or.inr; simp only [go_sem])) ?_; (repeat (first | simp (maxSteps := 2000000) (disch := omega) only [go_sem, ↓reduceIte] | with_reducible refine vIf_t ?_ | with_reducible refine vIf_f ?_)))
  cases hok : okP ps with
  | false =>
    have ec : ddC ps L = 1 := by simp [ddC, hok]
    (repeat (first | simp (maxSteps := 2000000) (disch := omega) only [go_sem, ↓reduceIte, hok] | with_reducible refine vIf_t ?_ | with_reducible refine vIf_f ?_))
    (refine retK_of ?_; (repeat (first | simp (maxSteps := 2000000) (disch := omega) only [go_sem, ↓reduceIte] | with_reducible refine vIf_t ?_ | with_reducible refine vIf_f ?_)))
    rw [ec]; simp
  | true =>
    (repeat (first | simp (maxSteps := 2000000) (disch := omega) only [go_sem, ↓reduceIte, hok] | with_reducible refine vIf_t ?_ | with_reducible refine vIf_f ?_))
    (refine vCallX_of ?_; (repeat (first | simp (maxSteps := 2000000) (disch := omega) only [go_sem, ↓reduceIte] | with_reducible refine vIf_t ?_ | with_reducible refine vIf_f ?_)); refine vCall_eq (dkLen_ok L) (by simp (disch := omega) only [go_sem]) rfl (by first | exact Or.inl rfl | exact Or.inr ⟨rfl, rfl⟩ | (apply Or.inr; simp only [go_sem])) ?_; (repeat (first | simp (maxSteps := 2000000) (disch := omega) only [go_sem, ↓reduceIte] | with_reducible refine vIf_t ?_ | with_reducible refine vIf_f ?_)))
    by_cases h2 : 1 ≤ L ∧ L ≤ 300000
    · have h2b : decide (1 ≤ L ∧ L ≤ 300000) = true := decide_eq_true h2
      (repeat (first | simp (maxSteps := 2000000) (disch := omega) only [go_sem, ↓reduceIte, h2b] | with_reducible refine vIf_t ?_ | with_reducible refine vIf_f ?_))
      refine vIf_beq (fun h3 => ?_) (fun h3 => ?_)
      · have ec : ddC ps L = 3 := by rw [ddC, if_pos hok, if_pos h2, if_pos (by omega)]
        (repeat (first | simp (maxSteps := 2000000) (disch := omega) only [go_sem, ↓reduceIte] | with_reducible refine vIf_t ?_ | with_reducible refine vIf_f ?_))
        (refine retK_of ?_; (repeat (first | simp (maxSteps := 2000000) (disch := omega) only [go_sem, ↓reduceIte] | with_reducible refine vIf_t ?_ | with_reducible refine vIf_f ?_)))
        rw [ec]; simp
      · have ec : ddC ps L = 0 := by rw [ddC, if_pos hok, if_pos h2, if_neg (by omega)]
        have hn : 0 < ps.length := by omega
        have F := shD_ok hok hn L h2
        (repeat (first | simp (maxSteps := 2000000) (disch := omega) only [go_sem, ↓reduceIte] | with_reducible refine vIf_t ?_ | with_reducible refine vIf_f ?_))
        (refine vCallX_of ?_; (repeat (first | simp (maxSteps := 2000000) (disch := omega) only [go_sem, ↓reduceIte] | with_reducible refine vIf_t ?_ | with_reducible refine vIf_f ?_)); refine vCall_eq (areasO_ok ps hok) (by simp (disch := omega) only [go_sem]) rfl (by first | exact Or.inl rfl | exact Or.inr ⟨rfl, rfl⟩ | (apply Or.inr; simp only [go_sem])) ?_; (repeat (first | simp (maxSteps := 2000000) (disch := omega) only [go_sem, ↓reduceIte] | with_reducible refine vIf_t ?_ | with_reducible refine vIf_f ?_)))
        (refine vCallX_fz 1 _ rfl (by (repeat (first | simp (maxSteps := 2000000) (disch := omega) only [go_sem, ↓reduceIte] | with_reducible refine vIf_t ?_ | with_reducible refine vIf_f ?_))) ?_; (repeat (first | simp (maxSteps := 2000000) (disch := omega) only [go_sem, ↓reduceIte] | with_reducible refine vIf_t ?_ | with_reducible refine vIf_f ?_)))
        (refine vCallX_of ?_; (repeat (first | simp (maxSteps := 2000000) (disch := omega) only [go_sem, ↓reduceIte] | with_reducible refine vIf_t ?_ | with_reducible refine vIf_f ?_)); refine vCall_eq (shares_ok ps hok hn L h2) (by simp (disch := omega) only [go_sem]) rfl (by first | exact Or.inl rfl | exact Or.inr ⟨rfl, rfl⟩ | (apply Or.inr; simp only [go_sem])) ?_; (repeat (first | simp (maxSteps := 2000000) (disch := omega) only [go_sem, ↓reduceIte] | with_reducible refine vIf_t ?_ | with_reducible refine vIf_f ?_)))
        have hsl := F.n
        rw [ec]
        generalize shD ps L = sh at *
        refine vcLoop_invF (fun k : Nat => k ≤ 40) (fun k => ⟨52, 0, [(31, I k), (7, I (sp sh k)), (6, .ref 0 0 (dvL sh k).length), (29, .ref 1 0 40), (30, I 40)], [some ⟨3, cDu (dvL sh k)⟩, oI sh]⟩) (fun k => 40 - k) 0 (by omega) (by (first | (refine leF_s ?_; ((repeat (first | simp (maxSteps := 2000000) (disch := omega) only [go_sem, ↓reduceIte] | with_reducible refine vIf_t ?_ | with_reducible refine vIf_f ?_)); all_goals (try simp); all_goals (try omega)); done) | (refine leF_p ?_; ((repeat (first | simp (maxSteps := 2000000) (disch := omega) only [go_sem, ↓reduceIte] | with_reducible refine vIf_t ?_ | with_reducible refine vIf_f ?_)); all_goals (try simp); all_goals (try omega)); done))) ?_
        intro k hk
        (repeat (first | simp (maxSteps := 2000000) (disch := omega) only [go_sem, ↓reduceIte] | with_reducible refine vIf_t ?_ | with_reducible refine vIf_f ?_))
        refine vIf_dec (fun hh => ?_) (fun hh => ?_)
        · have hkl : k < 40 := by omega
          have b1 := F.bd k hk
          have b2 := F.bd (k + 1) (by omega)
          have hs := sp_succ sh k (by omega)
          have hL := F.l
          have hnn := F.nn k hkl
          have hdl := dvL_len sh k
          have hw : IntKind.wrap .i64 (sp sh k + gi sh k) = sp sh k + gi sh k := by simp [IntKind.wrap, IntKind.bits, IntKind.signed]; omega
          (repeat (first | simp (maxSteps := 2000000) (disch := omega) only [go_sem, ↓reduceIte, hsl] | with_reducible refine vIf_t ?_ | with_reducible refine vIf_f ?_))
          refine vIf_dec (fun h4 => ?_) (fun h4 => ?_)
          · have e : dvL sh (k + 1) = dvL sh k ++ [⟨k, sp sh k, sp sh k + gi sh k⟩] := by rw [dvL, if_pos h4]
            (repeat (first | simp (maxSteps := 2000000) (disch := omega) only [go_sem, ↓reduceIte, hw] | with_reducible refine vIf_t ?_ | with_reducible refine vIf_f ?_))
            refine againF (k + 1) (by omega) (by omega) ?_
            rw [e, hs]
            (first | (refine leF_s ?_; ((repeat (first | simp (maxSteps := 2000000) (disch := omega) only [go_sem, ↓reduceIte] | with_reducible refine vIf_t ?_ | with_reducible refine vIf_f ?_)); all_goals (try simp); all_goals (try omega)); done) | (refine leF_p ?_; ((repeat (first | simp (maxSteps := 2000000) (disch := omega) only [go_sem, ↓reduceIte] | with_reducible refine vIf_t ?_ | with_reducible refine vIf_f ?_)); all_goals (try simp); all_goals (try omega)); done))
          · have e : dvL sh (k + 1) = dvL sh k := by rw [dvL, if_neg h4, List.append_nil]
            (repeat (first | simp (maxSteps := 2000000) (disch := omega) only [go_sem, ↓reduceIte] | with_reducible refine vIf_t ?_ | with_reducible refine vIf_f ?_))
            refine againF (k + 1) (by omega) (by omega) ?_
            rw [e, hs, show gi sh k = 0 by omega, Int.add_zero]
            (first | (refine leF_s ?_; ((repeat (first | simp (maxSteps := 2000000) (disch := omega) only [go_sem, ↓reduceIte] | with_reducible refine vIf_t ?_ | with_reducible refine vIf_f ?_)); all_goals (try simp); all_goals (try omega)); done) | (refine leF_p ?_; ((repeat (first | simp (maxSteps := 2000000) (disch := omega) only [go_sem, ↓reduceIte] | with_reducible refine vIf_t ?_ | with_reducible refine vIf_f ?_)); all_goals (try simp); all_goals (try omega)); done))
        · have hke : k = 40 := by omega
          subst hke
          (repeat (first | simp (maxSteps := 2000000) (disch := omega) only [go_sem, ↓reduceIte] | with_reducible refine vIf_t ?_ | with_reducible refine vIf_f ?_))
          (refine retK_of ?_; (repeat (first | simp (maxSteps := 2000000) (disch := omega) only [go_sem, ↓reduceIte] | with_reducible refine vIf_t ?_ | with_reducible refine vIf_f ?_)))
    · have h2b : decide (1 ≤ L ∧ L ≤ 300000) = false := decide_eq_false h2
      have ec : ddC ps L = 2 := by rw [ddC, if_pos hok, if_neg h2]
      (repeat (first | simp (maxSteps := 2000000) (disch := omega) only [go_sem, ↓reduceIte, h2b] | with_reducible refine vIf_t ?_ | with_reducible refine vIf_f ?_))
      (refine retK_of ?_; (repeat (first | simp (maxSteps := 2000000) (disch := omega) only [go_sem, ↓reduceIte] | with_reducible refine vIf_t ?_ | with_reducible refine vIf_f ?_)))
      rw [ec]; simp
end Go.Proofs.YtpjjjonplikilaaGreat
namespace Go.Proofs.YtpjjjonplikilaaGreat
open Go.AG

theorem stp_dry {s : Slc} {g : Gt} {ord i o : Int} (h : (stpS s g ord i o).2 = 0) (hop : (stpS s g ord i o).1.op = true) : o < i := by
  by_cases c : ord = 1 ∧ i ≤ o
  · unfold stpS at h
    rw [if_pos c] at h
    simp at h
  · have e : stpS s g ord i o = finG ⟨opn g ord i o, if opn g ord i o = true then g.ps + flw s i o else g.ps, if opn g ord i o = g.op then g.mv else g.mv + 1⟩ := if_neg c
    rw [e] at h hop
    have ho : opn g ord i o = true := by
      cases hq : okG9 ⟨opn g ord i o, if opn g ord i o = true then g.ps + flw s i o else g.ps, if opn g ord i o = g.op then g.mv else g.mv + 1⟩ with
      | true => rw [finG_y hq] at hop; exact hop
      | false => rw [finG_n hq] at h; simp at h
    simp only [opn, Bool.or_eq_true, Bool.and_eq_true, decide_eq_true_eq] at ho
    omega
theorem sgK_code {s : Slc} {os a b : List Int} {n k : Nat} (h : (sgS s os a b n).2 = 0) (hk : k ≤ n) : (sgS s os a b k).2 = 0 := by
  apply Classical.byContradiction; intro g
  exact g (by rw [← sgK_stop s os a b k n g hk]; exact h)
/-- a sluice that obeys is never open to the higher water -/
theorem gate_dry {s : Slc} {os a b : List Int} (h : rsC s os a b = 0) : (rsQ s os a b).length = a.length ∧ gfR ((rsQ s os a b).map Gt.op) a b = (-1, 0) := by
  have hq : rsQ s os a b = sgL s os a b a.length := by rw [rsQ, if_pos h]
  have h' := h
  unfold rsC at h'
  split at h'
  case isFalse => omega
  split at h'
  case isFalse => omega
  rename_i g1 g2
  have hl : (rsQ s os a b).length = a.length := by rw [hq, sgL_len]
  refine ⟨hl, ?_⟩
  have hsd : (sdB a b && decide (((rsQ s os a b).map Gt.op).length = a.length)) = true := by
    rw [g2.1, decide_eq_true (by rw [List.length_map, hl])]
    rfl
  unfold gfR
  rw [if_pos hsd, fsR_no]
  intro j hj
  rw [List.length_map, hl] at hj
  have e : gb ((rsQ s os a b).map Gt.op) j = (sgS s os a b (j + 1)).1.op := by
    rw [hq]
    simp [gb, sgL, hj]
  have hc := sgK_code (k := j + 1) h' (by omega)
  have hc0 := sgK_code (k := j) h' (by omega)
  unfold gfQ
  rw [e]
  cases ho : (sgS s os a b (j + 1)).1.op with
  | false => rfl
  | true =>
    rw [sgS, if_pos hc0] at hc ho
    have := stp_dry hc ho
    simp
    omega
/-- a divided dike has valid duties -/
theorem divided_vd {ps : List Pc} {L : Int} (h : ddC ps L = 0) : vdB (dvL (shD ps L) 40) L = true := by
  obtain ⟨h1, h2, h3⟩ := ddC_ok h
  exact vdB_yes (dv_VD (shD_ok h1 h3 L h2))
end Go.Proofs.YtpjjjonplikilaaGreat
namespace Go.Proofs.YtpjjjonplikilaaGreat
open Go.AG Go.Lib

attribute [local go_sem] beq_self_eq_true bne_self_eq_false Bool.not_true
theorem drawRB_e {code : List Int} (g : SrOk code) : ACalls Tryz.prog 5 [bS code] [] (fun r o => ∃ (ds : List Wt) (v : Int), r = .tup [I v, .ref 0 0 ds.length] ∧ o = [some ⟨5, cWt ds⟩] ∧ ds.length ≤ 101 ∧ -1 ≤ v ∧ v ≤ 1000000001) := by
  refine ACalls.of_vc Tryz.func5 rfl (by decide) 9 rfl [.tmp 2, .tmp 3] rfl (by simp) ?_
  have hf := from_e g
  unfold bS at hf ⊢
  (repeat (first | simp (maxSteps := 2000000) (disch := omega) only [go_sem, ↓reduceIte] | with_reducible refine vIf_t ?_ | with_reducible refine vIf_f ?_))
  (refine vCallX_of ?_; (repeat (first | simp (maxSteps := 2000000) (disch := omega) only [go_sem, ↓reduceIte] | with_reducible refine vIf_t ?_ | with_reducible refine vIf_f ?_)); refine vCall_eq (hf) (by simp (disch := omega) only [go_sem]) rfl (by first | exact Or.inl rfl | exact Or.inr ⟨rfl, rfl⟩ | (apply Or.inr; simp only [go_sem])) ?_; (repeat (first | simp (maxSteps := 2000000) (disch := omega) only [go_sem, ↓reduceIte] | with_reducible refine vIf_t ?_ | with_reducible refine vIf_f ?_)))
  (refine vCallX_io [0] ?_; (repeat (first | simp (maxSteps := 2000000) (disch := omega) only [go_sem, ↓reduceIte] | with_reducible refine vIf_t ?_ | with_reducible refine vIf_f ?_)); refine vCallIO_ex (l13Ask_e g ⟨0, 0⟩ (by simp)) (by simp (disch := omega) only [go_sem]) (by simp (disch := omega) only [go_sem]) (by first | rfl | (simp (disch := omega) only [go_sem])) (by first | rfl | (simp (disch := omega) only [go_sem])) (by first | rfl | (simp (disch := omega) only [go_sem])) ?_); rintro _ _ ⟨ds, v, σ1, rfl, rfl, h1, h2, h3, h4⟩; (refine ⟨by first | (simp (disch := omega) only [go_sem]) | trivial, ?_⟩; (repeat (first | simp (maxSteps := 2000000) (disch := omega) only [go_sem, ↓reduceIte] | with_reducible refine vIf_t ?_ | with_reducible refine vIf_f ?_)))
  (refine retK_of ?_; (repeat (first | simp (maxSteps := 2000000) (disch := omega) only [go_sem, ↓reduceIte] | with_reducible refine vIf_t ?_ | with_reducible refine vIf_f ?_)))
  exact ⟨ds, v, rfl, rfl, h1, h2, h3⟩
end Go.Proofs.YtpjjjonplikilaaGreat
namespace Go.Proofs.YtpjjjonplikilaaGreat
open Go.AG

attribute [local go_sem] beq_self_eq_true bne_self_eq_false Bool.not_true Bool.not_false
def putI (n : Int) : List Int → List Int
  | [] => [n]
  | x :: r => if x < n then x :: putI n r else if n < x then n :: x :: r else x :: r
theorem putI_len (n : Int) : ∀ (xs : List Int), (putI n xs).length ≤ xs.length + 1
  | [] => by simp [putI]
  | x :: r => by
    have := putI_len n r
    simp only [putI]
    split
    · simp; omega
    · split <;> simp
theorem put_ok (xs : List Int) (n : Int) (hl : xs.length ≤ 10000000) : ACalls Tryz.prog 75 [.sl xs.length (ints xs), I n] [] (fun r o => r = .ref 0 0 (putI n xs).length ∧ o = [oI (putI n xs)]) := by
  refine ACalls.of_vc Tryz.func75 rfl (by decide) 49 rfl [.tmp 4] rfl (by simp) ?_
  (repeat (first | simp (maxSteps := 2000000) (disch := omega) only [go_sem, ↓reduceIte] | with_reducible refine vIf_t ?_ | with_reducible refine vIf_f ?_))
  refine vcLoop_invF (fun x : Nat × Bool × List Int => x.1 ≤ xs.length ∧ x.2.2.length ≤ x.1 + 1 ∧ (match x.2.1 with | false => x.2.2 = xs.take x.1 ∧ putI n xs = x.2.2 ++ putI n (xs.drop x.1) | true => putI n xs = x.2.2 ++ xs.drop x.1)) (fun x => ⟨49, 0, [(7, I x.1), (0, .sl xs.length (ints xs)), (1, I n), (5, .ref 0 0 x.2.2.length), (6, B x.2.1)], [oI x.2.2]⟩) (fun x => xs.length - x.1) (0, false, []) ⟨by simp, by simp, by simp⟩ (by (first | (refine leF_s ?_; ((repeat (first | simp (maxSteps := 2000000) (disch := omega) only [go_sem, ↓reduceIte] | with_reducible refine vIf_t ?_ | with_reducible refine vIf_f ?_)); all_goals (try simp); all_goals (try omega)); done) | (refine leF_p ?_; ((repeat (first | simp (maxSteps := 2000000) (disch := omega) only [go_sem, ↓reduceIte] | with_reducible refine vIf_t ?_ | with_reducible refine vIf_f ?_)); all_goals (try simp); all_goals (try omega)); done))) ?_
  rintro ⟨k, d, out⟩ ⟨hk, hl2, hp⟩
  simp only at hk hl2 hp
  (repeat (first | simp (maxSteps := 2000000) (disch := omega) only [go_sem, ↓reduceIte] | with_reducible refine vIf_t ?_ | with_reducible refine vIf_f ?_))
  refine vIf_dec (fun h => ?_) (fun h => ?_)
  · have hkl : k < xs.length := by omega
    have ed : xs.drop k = gi xs k :: xs.drop (k + 1) := by rw [gi_lt xs k hkl]; exact List.drop_eq_getElem_cons hkl
    have et := take_succ_gi xs k hkl
    rw [ed] at hp
    cases d with
    | true =>
      simp only at hp
      (repeat (first | simp (maxSteps := 2000000) (disch := omega) only [go_sem, ↓reduceIte] | with_reducible refine vIf_t ?_ | with_reducible refine vIf_f ?_))
      refine againF (k + 1, true, out ++ [gi xs k]) ⟨by simp only; omega, by simp; omega, by simp only; rw [hp]; simp⟩ (by simp only; omega) (by (first | (refine leF_s ?_; ((repeat (first | simp (maxSteps := 2000000) (disch := omega) only [go_sem, ↓reduceIte] | with_reducible refine vIf_t ?_ | with_reducible refine vIf_f ?_)); all_goals (try simp); all_goals (try omega)); done) | (refine leF_p ?_; ((repeat (first | simp (maxSteps := 2000000) (disch := omega) only [go_sem, ↓reduceIte] | with_reducible refine vIf_t ?_ | with_reducible refine vIf_f ?_)); all_goals (try simp); all_goals (try omega)); done)))
    | false =>
      simp only at hp
      obtain ⟨hp1, hp2⟩ := hp
      simp only [putI] at hp2
      (repeat (first | simp (maxSteps := 2000000) (disch := omega) only [go_sem, ↓reduceIte] | with_reducible refine vIf_t ?_ | with_reducible refine vIf_f ?_))
      by_cases c1 : n ≤ gi xs k
      · have d1 : decide (n ≤ gi xs k) = true := decide_eq_true c1
        rw [if_neg (by omega)] at hp2
        (try (repeat (first | simp (maxSteps := 2000000) (disch := omega) only [go_sem, ↓reduceIte, d1] | with_reducible refine vIf_t ?_ | with_reducible refine vIf_f ?_)))
        by_cases c2 : n < gi xs k
        · have d2 : decide (n < gi xs k) = true := decide_eq_true c2
          rw [if_pos c2] at hp2
          have e9 : (out ++ [n]).take (out.length + 1) = out ++ [n] := List.take_of_length_le (by simp)
          (try (repeat (first | simp (maxSteps := 2000000) (disch := omega) only [go_sem, ↓reduceIte, d2, e9] | with_reducible refine vIf_t ?_ | with_reducible refine vIf_f ?_)))
          refine againF (k + 1, true, out ++ [n] ++ [gi xs k]) ⟨by simp only; omega, by rw [hp1]; simp; omega, by simp only; rw [hp2]; simp⟩ (by simp only; omega) (by (first | (refine leF_s ?_; ((repeat (first | simp (maxSteps := 2000000) (disch := omega) only [go_sem, ↓reduceIte] | with_reducible refine vIf_t ?_ | with_reducible refine vIf_f ?_)); all_goals (try simp); all_goals (try omega)); done) | (refine leF_p ?_; ((repeat (first | simp (maxSteps := 2000000) (disch := omega) only [go_sem, ↓reduceIte] | with_reducible refine vIf_t ?_ | with_reducible refine vIf_f ?_)); all_goals (try simp); all_goals (try omega)); done)))
        · have d2 : decide (n < gi xs k) = false := decide_eq_false c2
          rw [if_neg c2] at hp2
          (try (repeat (first | simp (maxSteps := 2000000) (disch := omega) only [go_sem, ↓reduceIte, d2] | with_reducible refine vIf_t ?_ | with_reducible refine vIf_f ?_)))
          refine againF (k + 1, true, out ++ [gi xs k]) ⟨by simp only; omega, by simp; omega, by simp only; rw [hp2]; simp⟩ (by simp only; omega) (by (first | (refine leF_s ?_; ((repeat (first | simp (maxSteps := 2000000) (disch := omega) only [go_sem, ↓reduceIte] | with_reducible refine vIf_t ?_ | with_reducible refine vIf_f ?_)); all_goals (try simp); all_goals (try omega)); done) | (refine leF_p ?_; ((repeat (first | simp (maxSteps := 2000000) (disch := omega) only [go_sem, ↓reduceIte] | with_reducible refine vIf_t ?_ | with_reducible refine vIf_f ?_)); all_goals (try simp); all_goals (try omega)); done)))
      · have d1 : decide (n ≤ gi xs k) = false := decide_eq_false c1
        rw [if_pos (by omega)] at hp2
        (try (repeat (first | simp (maxSteps := 2000000) (disch := omega) only [go_sem, ↓reduceIte, d1] | with_reducible refine vIf_t ?_ | with_reducible refine vIf_f ?_)))
        refine againF (k + 1, false, out ++ [gi xs k]) ⟨by simp only; omega, by simp; omega, ?_⟩ (by simp only; omega) (by (first | (refine leF_s ?_; ((repeat (first | simp (maxSteps := 2000000) (disch := omega) only [go_sem, ↓reduceIte] | with_reducible refine vIf_t ?_ | with_reducible refine vIf_f ?_)); all_goals (try simp); all_goals (try omega)); done) | (refine leF_p ?_; ((repeat (first | simp (maxSteps := 2000000) (disch := omega) only [go_sem, ↓reduceIte] | with_reducible refine vIf_t ?_ | with_reducible refine vIf_f ?_)); all_goals (try simp); all_goals (try omega)); done)))
        simp only
        exact ⟨by rw [et, hp1], by rw [hp2]; simp⟩
  · have ek : k = xs.length := by omega
    subst ek
    rw [List.drop_length] at hp
    cases d with
    | true =>
      simp only [List.append_nil] at hp
      rw [hp]
      (repeat (first | simp (maxSteps := 2000000) (disch := omega) only [go_sem, ↓reduceIte] | with_reducible refine vIf_t ?_ | with_reducible refine vIf_f ?_))
      (refine retK_of ?_; (repeat (first | simp (maxSteps := 2000000) (disch := omega) only [go_sem, ↓reduceIte] | with_reducible refine vIf_t ?_ | with_reducible refine vIf_f ?_)))
    | false =>
      simp only [putI] at hp
      rw [hp.2]
      (repeat (first | simp (maxSteps := 2000000) (disch := omega) only [go_sem, ↓reduceIte] | with_reducible refine vIf_t ?_ | with_reducible refine vIf_f ?_))
      (refine retK_of ?_; (repeat (first | simp (maxSteps := 2000000) (disch := omega) only [go_sem, ↓reduceIte] | with_reducible refine vIf_t ?_ | with_reducible refine vIf_f ?_)))
/-! the levels of both curves -/
end Go.Proofs.YtpjjjonplikilaaGreat
namespace Go.Proofs.YtpjjjonplikilaaGreat
open Go.AG Go.Lib

attribute [local go_sem] beq_self_eq_true bne_self_eq_false Bool.not_true Bool.not_false
set_option maxRecDepth 20000 in
set_option maxHeartbeats 4000000 in
theorem l09Draw_e {code : List Int} (g : SrOk code) (σ : Sr) (hp : σ.pos ≤ 100000000) : ACalls Tryz.prog 33 [.ptr 0 0] [srO code σ] (fun r o => ∃ (s : Slc) (σ' : Sr), r = .agg s.cells ∧ o = [srO code σ'] ∧ σ'.pos ≤ σ.pos + 30) := by
  refine ACalls.of_vc Tryz.func33 rfl (by decide) 28 rfl [.cell 2 34] rfl (by simp) ?_
  (repeat (first | simp (maxSteps := 2000000) (disch := omega) only [go_sem, ↓reduceIte] | with_reducible refine vIf_t ?_ | with_reducible refine vIf_f ?_))
  (refine vCallX_io [0] ?_; (repeat (first | simp (maxSteps := 2000000) (disch := omega) only [go_sem, ↓reduceIte] | with_reducible refine vIf_t ?_ | with_reducible refine vIf_f ?_)); refine vCallIO_ex (pick_e g 60 σ (by omega)) (by simp (disch := omega) only [go_sem]) (by simp (disch := omega) only [go_sem]) (by first | rfl | (simp (disch := omega) only [go_sem])) (by first | rfl | (simp (disch := omega) only [go_sem])) (by first | rfl | (simp (disch := omega) only [go_sem])) ?_); rintro _ _ ⟨v1, σ1, rfl, rfl, h1, h2, h3⟩; (refine ⟨by first | (simp (disch := omega) only [go_sem]) | trivial, ?_⟩; (repeat (first | simp (maxSteps := 2000000) (disch := omega) only [go_sem, ↓reduceIte] | with_reducible refine vIf_t ?_ | with_reducible refine vIf_f ?_)))
  (refine vCallX_io [0] ?_; (repeat (first | simp (maxSteps := 2000000) (disch := omega) only [go_sem, ↓reduceIte] | with_reducible refine vIf_t ?_ | with_reducible refine vIf_f ?_)); refine vCallIO_ex (pick_e g 20 σ1 (by omega)) (by simp (disch := omega) only [go_sem]) (by simp (disch := omega) only [go_sem]) (by first | rfl | (simp (disch := omega) only [go_sem])) (by first | rfl | (simp (disch := omega) only [go_sem])) (by first | rfl | (simp (disch := omega) only [go_sem])) ?_); rintro _ _ ⟨v2, σ2, rfl, rfl, h4, h5, h6⟩; (refine ⟨by first | (simp (disch := omega) only [go_sem]) | trivial, ?_⟩; (repeat (first | simp (maxSteps := 2000000) (disch := omega) only [go_sem, ↓reduceIte] | with_reducible refine vIf_t ?_ | with_reducible refine vIf_f ?_)))
  (refine vCallX_io [0] ?_; (repeat (first | simp (maxSteps := 2000000) (disch := omega) only [go_sem, ↓reduceIte] | with_reducible refine vIf_t ?_ | with_reducible refine vIf_f ?_)); refine vCallIO_ex (pick_e g 24 σ2 (by omega)) (by simp (disch := omega) only [go_sem]) (by simp (disch := omega) only [go_sem]) (by first | rfl | (simp (disch := omega) only [go_sem])) (by first | rfl | (simp (disch := omega) only [go_sem])) (by first | rfl | (simp (disch := omega) only [go_sem])) ?_); rintro _ _ ⟨v3, σ3, rfl, rfl, h7, h8, h9⟩; (refine ⟨by first | (simp (disch := omega) only [go_sem]) | trivial, ?_⟩; (repeat (first | simp (maxSteps := 2000000) (disch := omega) only [go_sem, ↓reduceIte] | with_reducible refine vIf_t ?_ | with_reducible refine vIf_f ?_)))
  refine vIf_beq (fun h => ?_) (fun h => ?_)
  · (repeat (first | simp (maxSteps := 2000000) (disch := omega) only [go_sem, ↓reduceIte] | with_reducible refine vIf_t ?_ | with_reducible refine vIf_f ?_))
    (refine vCallX_io [0, 3] ?_; (repeat (first | simp (maxSteps := 2000000) (disch := omega) only [go_sem, ↓reduceIte] | with_reducible refine vIf_t ?_ | with_reducible refine vIf_f ?_)); refine vCallIO_ex (among_l g [-1, 0, 1, 5000, 5001, -9223372036854775808] σ3 (by omega) (by simp) _ rfl _ rfl) (by simp (disch := omega) only [go_sem]) (by simp (disch := omega) only [go_sem]) (by first | rfl | (simp (disch := omega) only [go_sem])) (by first | rfl | (simp (disch := omega) only [go_sem])) (by first | rfl | (simp (disch := omega) only [go_sem])) ?_); rintro _ _ ⟨v, σ4, rfl, rfl, h10, h11⟩; (refine ⟨by first | (simp (disch := omega) only [go_sem]) | trivial, ?_⟩; (repeat (first | simp (maxSteps := 2000000) (disch := omega) only [go_sem, ↓reduceIte] | with_reducible refine vIf_t ?_ | with_reducible refine vIf_f ?_)))
    (refine retK_of ?_; (repeat (first | simp (maxSteps := 2000000) (disch := omega) only [go_sem, ↓reduceIte] | with_reducible refine vIf_t ?_ | with_reducible refine vIf_f ?_)))
    exact ⟨⟨v, 10 * v2 - 250⟩, σ4, rfl, rfl, by omega⟩
  (repeat (first | simp (maxSteps := 2000000) (disch := omega) only [go_sem, ↓reduceIte] | with_reducible refine vIf_t ?_ | with_reducible refine vIf_f ?_))
  refine vIf_beq (fun h => ?_) (fun h => ?_)
  · (repeat (first | simp (maxSteps := 2000000) (disch := omega) only [go_sem, ↓reduceIte] | with_reducible refine vIf_t ?_ | with_reducible refine vIf_f ?_))
    (refine vCallX_io [0] ?_; (repeat (first | simp (maxSteps := 2000000) (disch := omega) only [go_sem, ↓reduceIte] | with_reducible refine vIf_t ?_ | with_reducible refine vIf_f ?_)); refine vCallIO_ex (l02BentL_e g σ3 (by omega)) (by simp (disch := omega) only [go_sem]) (by simp (disch := omega) only [go_sem]) (by first | rfl | (simp (disch := omega) only [go_sem])) (by first | rfl | (simp (disch := omega) only [go_sem])) (by first | rfl | (simp (disch := omega) only [go_sem])) ?_); rintro _ _ ⟨v, σ4, rfl, rfl, h10⟩; (refine ⟨by first | (simp (disch := omega) only [go_sem]) | trivial, ?_⟩; (repeat (first | simp (maxSteps := 2000000) (disch := omega) only [go_sem, ↓reduceIte] | with_reducible refine vIf_t ?_ | with_reducible refine vIf_f ?_)))
    (refine retK_of ?_; (repeat (first | simp (maxSteps := 2000000) (disch := omega) only [go_sem, ↓reduceIte] | with_reducible refine vIf_t ?_ | with_reducible refine vIf_f ?_)))
    exact ⟨⟨10 * (1 + v1), v⟩, σ4, rfl, rfl, by omega⟩
  · (repeat (first | simp (maxSteps := 2000000) (disch := omega) only [go_sem, ↓reduceIte] | with_reducible refine vIf_t ?_ | with_reducible refine vIf_f ?_))
    (refine retK_of ?_; (repeat (first | simp (maxSteps := 2000000) (disch := omega) only [go_sem, ↓reduceIte] | with_reducible refine vIf_t ?_ | with_reducible refine vIf_f ?_)))
    exact ⟨⟨10 * (1 + v1), 10 * v2 - 250⟩, σ3, rfl, rfl, by omega⟩
set_option maxRecDepth 20000 in
set_option maxHeartbeats 4000000 in
theorem l09Run_e {code : List Int} (g : SrOk code) (σ : Sr) (hp : σ.pos ≤ 100000000) : ACalls Tryz.prog 34 [.ptr 0 0] [srO code σ] (fun r o => ∃ (a b : List Int) (σ' : Sr), r = .tup [.sl a.length (ints a), .sl b.length (ints b)] ∧ o = [srO code σ'] ∧ a.length ≤ 201 ∧ b.length ≤ 201 ∧ σ'.pos ≤ σ.pos + 1000) := by
  refine ACalls.of_vc Tryz.func34 rfl (by decide) 60 rfl [.tmp 2, .tmp 3] rfl (by simp) ?_
  (repeat (first | simp (maxSteps := 2000000) (disch := omega) only [go_sem, ↓reduceIte] | with_reducible refine vIf_t ?_ | with_reducible refine vIf_f ?_))
  (refine vCallX_io [0] ?_; (repeat (first | simp (maxSteps := 2000000) (disch := omega) only [go_sem, ↓reduceIte] | with_reducible refine vIf_t ?_ | with_reducible refine vIf_f ?_)); refine vCallIO_ex (pick_e g 14 σ (by omega)) (by simp (disch := omega) only [go_sem]) (by simp (disch := omega) only [go_sem]) (by first | rfl | (simp (disch := omega) only [go_sem])) (by first | rfl | (simp (disch := omega) only [go_sem])) (by first | rfl | (simp (disch := omega) only [go_sem])) ?_); rintro _ _ ⟨v1, σ1, rfl, rfl, h1, h2, h3⟩; (refine ⟨by first | (simp (disch := omega) only [go_sem]) | trivial, ?_⟩; (repeat (first | simp (maxSteps := 2000000) (disch := omega) only [go_sem, ↓reduceIte] | with_reducible refine vIf_t ?_ | with_reducible refine vIf_f ?_)))
  (refine vCallX_io [0] ?_; (repeat (first | simp (maxSteps := 2000000) (disch := omega) only [go_sem, ↓reduceIte] | with_reducible refine vIf_t ?_ | with_reducible refine vIf_f ?_)); refine vCallIO_ex (one_e g 24 σ1 (by omega)) (by simp (disch := omega) only [go_sem]) (by simp (disch := omega) only [go_sem]) (by first | rfl | (simp (disch := omega) only [go_sem])) (by first | rfl | (simp (disch := omega) only [go_sem])) (by first | rfl | (simp (disch := omega) only [go_sem])) ?_); rintro _ _ ⟨b1, σ2, rfl, rfl, h4⟩; (refine ⟨by first | (simp (disch := omega) only [go_sem]) | trivial, ?_⟩; (repeat (first | simp (maxSteps := 2000000) (disch := omega) only [go_sem, ↓reduceIte] | with_reducible refine vIf_t ?_ | with_reducible refine vIf_f ?_)))
  refine vIf_join (fun x : Int × Sr => (0 ≤ x.1 ∧ x.1 ≤ 201) ∧ x.2.pos ≤ σ.pos + 20) (fun x => ⟨60, 1, [(0, .ptr 0 0), (5, .ref 2 0 0), (4, .ref 1 0 0), (6, I x.1)], [srO code x.2, oI [], oI []]⟩) (fun h => ?_) (fun h => ?_) ?_
  · (repeat (first | simp (maxSteps := 2000000) (disch := omega) only [go_sem, ↓reduceIte] | with_reducible refine vIf_t ?_ | with_reducible refine vIf_f ?_))
    (refine vCallX_io [0] ?_; (repeat (first | simp (maxSteps := 2000000) (disch := omega) only [go_sem, ↓reduceIte] | with_reducible refine vIf_t ?_ | with_reducible refine vIf_f ?_)); refine vCallIO_ex (pick_e g 2 σ2 (by omega)) (by simp (disch := omega) only [go_sem]) (by simp (disch := omega) only [go_sem]) (by first | rfl | (simp (disch := omega) only [go_sem])) (by first | rfl | (simp (disch := omega) only [go_sem])) (by first | rfl | (simp (disch := omega) only [go_sem])) ?_); rintro _ _ ⟨v2, σ3, rfl, rfl, h5, h6, h7⟩; (refine ⟨by first | (simp (disch := omega) only [go_sem]) | trivial, ?_⟩; (repeat (first | simp (maxSteps := 2000000) (disch := omega) only [go_sem, ↓reduceIte] | with_reducible refine vIf_t ?_ | with_reducible refine vIf_f ?_)))
    refine jnF ((200 + v2, σ3)) ?_ (by (first | (refine leF_s ?_; ((repeat (first | simp (maxSteps := 2000000) (disch := omega) only [go_sem, ↓reduceIte] | with_reducible refine vIf_t ?_ | with_reducible refine vIf_f ?_)); all_goals (try simp); all_goals (try omega)); done) | (refine leF_p ?_; ((repeat (first | simp (maxSteps := 2000000) (disch := omega) only [go_sem, ↓reduceIte] | with_reducible refine vIf_t ?_ | with_reducible refine vIf_f ?_)); all_goals (try simp); all_goals (try omega)); done)))
    exact ⟨by simp only; omega, by simp only; omega⟩
  · (repeat (first | simp (maxSteps := 2000000) (disch := omega) only [go_sem, ↓reduceIte] | with_reducible refine vIf_t ?_ | with_reducible refine vIf_f ?_))
    refine jnF ((v1, σ2)) ?_ (by (first | (refine leF_s ?_; ((repeat (first | simp (maxSteps := 2000000) (disch := omega) only [go_sem, ↓reduceIte] | with_reducible refine vIf_t ?_ | with_reducible refine vIf_f ?_)); all_goals (try simp); all_goals (try omega)); done) | (refine leF_p ?_; ((repeat (first | simp (maxSteps := 2000000) (disch := omega) only [go_sem, ↓reduceIte] | with_reducible refine vIf_t ?_ | with_reducible refine vIf_f ?_)); all_goals (try simp); all_goals (try omega)); done)))
    exact ⟨by simp only; omega, by simp only; omega⟩
  rintro ⟨n, σ3⟩ ⟨g1, g2⟩
  simp only at g1 g2
  (repeat (first | simp (maxSteps := 2000000) (disch := omega) only [go_sem, ↓reduceIte] | with_reducible refine vIf_t ?_ | with_reducible refine vIf_f ?_))
  (refine vCallX_io [0] ?_; (repeat (first | simp (maxSteps := 2000000) (disch := omega) only [go_sem, ↓reduceIte] | with_reducible refine vIf_t ?_ | with_reducible refine vIf_f ?_)); refine vCallIO_ex (pick_e g 10 σ3 (by omega)) (by simp (disch := omega) only [go_sem]) (by simp (disch := omega) only [go_sem]) (by first | rfl | (simp (disch := omega) only [go_sem])) (by first | rfl | (simp (disch := omega) only [go_sem])) (by first | rfl | (simp (disch := omega) only [go_sem])) ?_); rintro _ _ ⟨v3, σ4, rfl, rfl, h5, h6, h7⟩; (refine ⟨by first | (simp (disch := omega) only [go_sem]) | trivial, ?_⟩; (repeat (first | simp (maxSteps := 2000000) (disch := omega) only [go_sem, ↓reduceIte] | with_reducible refine vIf_t ?_ | with_reducible refine vIf_f ?_)))
  refine vcLoop_invF (fun x : List Int × List Int × Sr => x.1.length = x.2.1.length ∧ (x.1.length : Int) ≤ n ∧ x.2.2.pos ≤ σ.pos + 30 + 4 * x.1.length) (fun x => ⟨60, 1, [(8, I x.1.length), (0, .ptr 0 0), (7, I (10 * v3 - 150)), (5, .ref 2 0 x.2.1.length), (4, .ref 1 0 x.1.length), (6, I n)], [srO code x.2.2, oI x.1, oI x.2.1]⟩) (fun x => (n - x.1.length).toNat) ([], [], σ4) ⟨rfl, by simp; omega, by simp; omega⟩ (by (first | (refine leF_s ?_; ((repeat (first | simp (maxSteps := 2000000) (disch := omega) only [go_sem, ↓reduceIte] | with_reducible refine vIf_t ?_ | with_reducible refine vIf_f ?_)); all_goals (try simp); all_goals (try omega)); done) | (refine leF_p ?_; ((repeat (first | simp (maxSteps := 2000000) (disch := omega) only [go_sem, ↓reduceIte] | with_reducible refine vIf_t ?_ | with_reducible refine vIf_f ?_)); all_goals (try simp); all_goals (try omega)); done))) ?_
  rintro ⟨a, b, σ5⟩ ⟨q1, q2, q3⟩
  simp only at q1 q2 q3
  (repeat (first | simp (maxSteps := 2000000) (disch := omega) only [go_sem, ↓reduceIte] | with_reducible refine vIf_t ?_ | with_reducible refine vIf_f ?_))
  refine vIf_dec (fun h => ?_) (fun h => ?_)
  · (repeat (first | simp (maxSteps := 2000000) (disch := omega) only [go_sem, ↓reduceIte] | with_reducible refine vIf_t ?_ | with_reducible refine vIf_f ?_))
    (refine vCallX_io [0] ?_; (repeat (first | simp (maxSteps := 2000000) (disch := omega) only [go_sem, ↓reduceIte] | with_reducible refine vIf_t ?_ | with_reducible refine vIf_f ?_)); refine vCallIO_ex (pick_e g 5 σ5 (by omega)) (by simp (disch := omega) only [go_sem]) (by simp (disch := omega) only [go_sem]) (by first | rfl | (simp (disch := omega) only [go_sem])) (by first | rfl | (simp (disch := omega) only [go_sem])) (by first | rfl | (simp (disch := omega) only [go_sem])) ?_); rintro _ _ ⟨v5, σ6, rfl, rfl, h8, h9, h10⟩; (refine ⟨by first | (simp (disch := omega) only [go_sem]) | trivial, ?_⟩; (repeat (first | simp (maxSteps := 2000000) (disch := omega) only [go_sem, ↓reduceIte] | with_reducible refine vIf_t ?_ | with_reducible refine vIf_f ?_)))
    (refine vCallX_io [0] ?_; (repeat (first | simp (maxSteps := 2000000) (disch := omega) only [go_sem, ↓reduceIte] | with_reducible refine vIf_t ?_ | with_reducible refine vIf_f ?_)); refine vCallIO_ex (pick_e g 12 σ6 (by omega)) (by simp (disch := omega) only [go_sem]) (by simp (disch := omega) only [go_sem]) (by first | rfl | (simp (disch := omega) only [go_sem])) (by first | rfl | (simp (disch := omega) only [go_sem])) (by first | rfl | (simp (disch := omega) only [go_sem])) ?_); rintro _ _ ⟨v6, σ7, rfl, rfl, h11, h12, h13⟩; (refine ⟨by first | (simp (disch := omega) only [go_sem]) | trivial, ?_⟩; (repeat (first | simp (maxSteps := 2000000) (disch := omega) only [go_sem, ↓reduceIte] | with_reducible refine vIf_t ?_ | with_reducible refine vIf_f ?_)))
    refine againF ((a ++ [10 * v3 - 150 + 10 * v5], b ++ [10 * v3 - 150 + 10 * v6 - 40], σ7)) ?_ ?_ (by (first | (refine leF_s ?_; ((repeat (first | simp (maxSteps := 2000000) (disch := omega) only [go_sem, ↓reduceIte] | with_reducible refine vIf_t ?_ | with_reducible refine vIf_f ?_)); all_goals (try simp); all_goals (try omega)); done) | (refine leF_p ?_; ((repeat (first | simp (maxSteps := 2000000) (disch := omega) only [go_sem, ↓reduceIte] | with_reducible refine vIf_t ?_ | with_reducible refine vIf_f ?_)); all_goals (try simp); all_goals (try omega)); done)))
    · exact ⟨by simp [q1], by simp; omega, by simp; omega⟩
    · simp; omega
  · obtain rfl : n = a.length := by omega
    have hab := q1
    (repeat (first | simp (maxSteps := 2000000) (disch := omega) only [go_sem, ↓reduceIte] | with_reducible refine vIf_t ?_ | with_reducible refine vIf_f ?_))
    refine vIf_dec (fun h1 => ?_) (fun h1 => ?_)
    · (repeat (first | simp (maxSteps := 2000000) (disch := omega) only [go_sem, ↓reduceIte] | with_reducible refine vIf_t ?_ | with_reducible refine vIf_f ?_))
      (refine vCallX_io [0] ?_; (repeat (first | simp (maxSteps := 2000000) (disch := omega) only [go_sem, ↓reduceIte] | with_reducible refine vIf_t ?_ | with_reducible refine vIf_f ?_)); refine vCallIO_ex (pick_e g 20 σ5 (by omega)) (by simp (disch := omega) only [go_sem]) (by simp (disch := omega) only [go_sem]) (by first | rfl | (simp (disch := omega) only [go_sem])) (by first | rfl | (simp (disch := omega) only [go_sem])) (by first | rfl | (simp (disch := omega) only [go_sem])) ?_); rintro _ _ ⟨v5, σ6, rfl, rfl, h8, h9, h10⟩; (refine ⟨by first | (simp (disch := omega) only [go_sem]) | trivial, ?_⟩; (repeat (first | simp (maxSteps := 2000000) (disch := omega) only [go_sem, ↓reduceIte] | with_reducible refine vIf_t ?_ | with_reducible refine vIf_f ?_)))
      refine vIf_beq (fun h2 => ?_) (fun h2 => ?_)
      · (repeat (first | simp (maxSteps := 2000000) (disch := omega) only [go_sem, ↓reduceIte] | with_reducible refine vIf_t ?_ | with_reducible refine vIf_f ?_))
        (refine vCallX_io [0] ?_; (repeat (first | simp (maxSteps := 2000000) (disch := omega) only [go_sem, ↓reduceIte] | with_reducible refine vIf_t ?_ | with_reducible refine vIf_f ?_)); refine vCallIO_ex (l02BentL_e g σ6 (by omega)) (by simp (disch := omega) only [go_sem]) (by simp (disch := omega) only [go_sem]) (by first | rfl | (simp (disch := omega) only [go_sem])) (by first | rfl | (simp (disch := omega) only [go_sem])) (by first | rfl | (simp (disch := omega) only [go_sem])) ?_); rintro _ _ ⟨v, σ7, rfl, rfl, h11⟩; (refine ⟨by first | (simp (disch := omega) only [go_sem]) | trivial, ?_⟩; (repeat (first | simp (maxSteps := 2000000) (disch := omega) only [go_sem, ↓reduceIte] | with_reducible refine vIf_t ?_ | with_reducible refine vIf_f ?_)))
        have hp0 : 0 < a.length := by omega
        refine retK_fz 1 ⟨1, ints (a.set 0 v)⟩ rfl (by (repeat (first | simp (maxSteps := 2000000) (disch := omega) only [go_sem, ↓reduceIte] | with_reducible refine vIf_t ?_ | with_reducible refine vIf_f ?_))) ?_
        (repeat (first | simp (maxSteps := 2000000) (disch := omega) only [go_sem, ↓reduceIte] | with_reducible refine vIf_t ?_ | with_reducible refine vIf_f ?_))
        refine retK_fz 2 ⟨1, ints b⟩ rfl (by (repeat (first | simp (maxSteps := 2000000) (disch := omega) only [go_sem, ↓reduceIte] | with_reducible refine vIf_t ?_ | with_reducible refine vIf_f ?_))) ?_
        (repeat (first | simp (maxSteps := 2000000) (disch := omega) only [go_sem, ↓reduceIte] | with_reducible refine vIf_t ?_ | with_reducible refine vIf_f ?_))
        (refine retK_of ?_; (repeat (first | simp (maxSteps := 2000000) (disch := omega) only [go_sem, ↓reduceIte] | with_reducible refine vIf_t ?_ | with_reducible refine vIf_f ?_)))
        exact ⟨a.set 0 v, b, σ7, by simp [List.take_of_length_le], rfl, by rw [List.length_set]; omega, by omega, by omega⟩
      (repeat (first | simp (maxSteps := 2000000) (disch := omega) only [go_sem, ↓reduceIte] | with_reducible refine vIf_t ?_ | with_reducible refine vIf_f ?_))
      refine vIf_beq (fun h2 => ?_) (fun h2 => ?_)
      · (repeat (first | simp (maxSteps := 2000000) (disch := omega) only [go_sem, ↓reduceIte] | with_reducible refine vIf_t ?_ | with_reducible refine vIf_f ?_))
        refine retK_fz 1 ⟨1, ints a⟩ rfl (by (repeat (first | simp (maxSteps := 2000000) (disch := omega) only [go_sem, ↓reduceIte] | with_reducible refine vIf_t ?_ | with_reducible refine vIf_f ?_))) ?_
        (repeat (first | simp (maxSteps := 2000000) (disch := omega) only [go_sem, ↓reduceIte] | with_reducible refine vIf_t ?_ | with_reducible refine vIf_f ?_))
        refine retK_fz 2 ⟨1, ints b⟩ rfl (by (repeat (first | simp (maxSteps := 2000000) (disch := omega) only [go_sem, ↓reduceIte] | with_reducible refine vIf_t ?_ | with_reducible refine vIf_f ?_))) ?_
        (repeat (first | simp (maxSteps := 2000000) (disch := omega) only [go_sem, ↓reduceIte] | with_reducible refine vIf_t ?_ | with_reducible refine vIf_f ?_))
        (refine retK_of ?_; (repeat (first | simp (maxSteps := 2000000) (disch := omega) only [go_sem, ↓reduceIte] | with_reducible refine vIf_t ?_ | with_reducible refine vIf_f ?_)))
        exact ⟨a, b.drop 1, σ6, by simp [List.take_of_length_le], rfl, by omega, by rw [List.length_drop]; omega, by omega⟩
      · (repeat (first | simp (maxSteps := 2000000) (disch := omega) only [go_sem, ↓reduceIte] | with_reducible refine vIf_t ?_ | with_reducible refine vIf_f ?_))
        refine retK_fz 1 ⟨1, ints a⟩ rfl (by (repeat (first | simp (maxSteps := 2000000) (disch := omega) only [go_sem, ↓reduceIte] | with_reducible refine vIf_t ?_ | with_reducible refine vIf_f ?_))) ?_
        (repeat (first | simp (maxSteps := 2000000) (disch := omega) only [go_sem, ↓reduceIte] | with_reducible refine vIf_t ?_ | with_reducible refine vIf_f ?_))
        refine retK_fz 2 ⟨1, ints b⟩ rfl (by (repeat (first | simp (maxSteps := 2000000) (disch := omega) only [go_sem, ↓reduceIte] | with_reducible refine vIf_t ?_ | with_reducible refine vIf_f ?_))) ?_
        (repeat (first | simp (maxSteps := 2000000) (disch := omega) only [go_sem, ↓reduceIte] | with_reducible refine vIf_t ?_ | with_reducible refine vIf_f ?_))
        (refine retK_of ?_; (repeat (first | simp (maxSteps := 2000000) (disch := omega) only [go_sem, ↓reduceIte] | with_reducible refine vIf_t ?_ | with_reducible refine vIf_f ?_)))
        exact ⟨a, b, σ6, rfl, rfl, by omega, by omega, by omega⟩
    · (repeat (first | simp (maxSteps := 2000000) (disch := omega) only [go_sem, ↓reduceIte] | with_reducible refine vIf_t ?_ | with_reducible refine vIf_f ?_))
      refine retK_fz 1 ⟨1, ints a⟩ rfl (by (repeat (first | simp (maxSteps := 2000000) (disch := omega) only [go_sem, ↓reduceIte] | with_reducible refine vIf_t ?_ | with_reducible refine vIf_f ?_))) ?_
      (repeat (first | simp (maxSteps := 2000000) (disch := omega) only [go_sem, ↓reduceIte] | with_reducible refine vIf_t ?_ | with_reducible refine vIf_f ?_))
      refine retK_fz 2 ⟨1, ints b⟩ rfl (by (repeat (first | simp (maxSteps := 2000000) (disch := omega) only [go_sem, ↓reduceIte] | with_reducible refine vIf_t ?_ | with_reducible refine vIf_f ?_))) ?_
      (repeat (first | simp (maxSteps := 2000000) (disch := omega) only [go_sem, ↓reduceIte] | with_reducible refine vIf_t ?_ | with_reducible refine vIf_f ?_))
      (refine retK_of ?_; (repeat (first | simp (maxSteps := 2000000) (disch := omega) only [go_sem, ↓reduceIte] | with_reducible refine vIf_t ?_ | with_reducible refine vIf_f ?_)))
      exact ⟨a, b, σ5, rfl, rfl, by omega, by omega, by omega⟩
theorem wr_b1 (b : Bool) : wr (bls [false]) 0 [.sc (.bool b)] = bls [b] := _root_.id rfl
theorem bls_r1 : List.replicate 1 false = [false] := _root_.id rfl
attribute [local go_sem] wr_b1 bls_r1 Slc.cells Gt.cells
end Go.Proofs.YtpjjjonplikilaaGreat
namespace Go.Proofs.YtpjjjonplikilaaGreat
open Go.AG

theorem f6big_ok (code : List Int) (hl : code.length ≤ 9223372036854775807) : ACalls Tryz.prog 4 [bS code] [] (fun r o => r = B (decide (4096 < code.length)) ∧ o = []) := by
  refine ACalls.of_vc Tryz.func4 rfl (by decide) 6 rfl [.tmp 2] rfl (by simp) ?_
  unfold bS
  (repeat (first | simp (maxSteps := 2000000) (disch := omega) only [go_sem, ↓reduceIte] | with_reducible refine vIf_t ?_ | with_reducible refine vIf_f ?_))
  (refine retK_of ?_; (repeat (first | simp (maxSteps := 2000000) (disch := omega) only [go_sem, ↓reduceIte] | with_reducible refine vIf_t ?_ | with_reducible refine vIf_f ?_)))
  have e : decide (4096 < (code.length : Int)) = decide (4096 < code.length) := decide_eq_decide.2 (by omega)
  rw [e]
set_option maxHeartbeats 1000000 in
theorem f6ints_ok (xs ys : List Int) (hl : xs.length ≤ 10000000) : ACalls Tryz.prog 8 [.sl xs.length (ints xs), .sl ys.length (ints ys)] [] (fun r o => r = B (decide (xs = ys)) ∧ o = []) := by
  refine ACalls.of_vc Tryz.func8 rfl (by decide) 26 rfl [.tmp 4] rfl (by simp) ?_
  (repeat (first | simp (maxSteps := 2000000) (disch := omega) only [go_sem, ↓reduceIte] | with_reducible refine vIf_t ?_ | with_reducible refine vIf_f ?_))
  refine vIf_bne (fun h => ?_) (fun h => ?_)
  · (repeat (first | simp (maxSteps := 2000000) (disch := omega) only [go_sem, ↓reduceIte] | with_reducible refine vIf_t ?_ | with_reducible refine vIf_f ?_))
    (refine retK_of ?_; (repeat (first | simp (maxSteps := 2000000) (disch := omega) only [go_sem, ↓reduceIte] | with_reducible refine vIf_t ?_ | with_reducible refine vIf_f ?_)))
    rw [decide_eq_false (fun e => h (by rw [e]))]
  · (repeat (first | simp (maxSteps := 2000000) (disch := omega) only [go_sem, ↓reduceIte] | with_reducible refine vIf_t ?_ | with_reducible refine vIf_f ?_))
    refine vcLoop_inv (fun k : Nat => k ≤ xs.length ∧ xs.take k = ys.take k) (fun k => ⟨26, 0, [(5, I k), (0, .sl xs.length (ints xs)), (1, .sl ys.length (ints ys))], []⟩) (fun k => xs.length - k) 0 (by simp) (by (repeat (first | simp (maxSteps := 2000000) (disch := omega) only [go_sem, ↓reduceIte] | with_reducible refine vIf_t ?_ | with_reducible refine vIf_f ?_)); all_goals (try simp)) ?_
    intro k ⟨hk, he⟩
    (repeat (first | simp (maxSteps := 2000000) (disch := omega) only [go_sem, ↓reduceIte] | with_reducible refine vIf_t ?_ | with_reducible refine vIf_f ?_))
    refine vIf_dec (fun h2 => ?_) (fun h2 => ?_)
    · (repeat (first | simp (maxSteps := 2000000) (disch := omega) only [go_sem, ↓reduceIte] | with_reducible refine vIf_t ?_ | with_reducible refine vIf_f ?_))
      (refine vDraw_sch 8 [(0, false), (1, false), (2, false), (3, false), (4, false), (5, false), (6, false), (7, false)] mixed (by kernel_rfl) ?_; simp only [List.cons_append, List.nil_append, List.map_cons, List.map_nil, nthO_zero, nthO_succ, List.drop_succ_cons, List.drop_zero, List.drop_nil]; (repeat (first | simp (maxSteps := 2000000) (disch := omega) only [go_sem, ↓reduceIte] | with_reducible refine vIf_t ?_ | with_reducible refine vIf_f ?_)))
      (try (repeat (first | simp (maxSteps := 2000000) (disch := omega) only [go_sem, ↓reduceIte] | with_reducible refine vIf_t ?_ | with_reducible refine vIf_f ?_)))
      refine vIf_bne (fun h3 => ?_) (fun h3 => ?_)
      · (repeat (first | simp (maxSteps := 2000000) (disch := omega) only [go_sem, ↓reduceIte] | with_reducible refine vIf_t ?_ | with_reducible refine vIf_f ?_))
        (refine retK_of ?_; (repeat (first | simp (maxSteps := 2000000) (disch := omega) only [go_sem, ↓reduceIte] | with_reducible refine vIf_t ?_ | with_reducible refine vIf_f ?_)))
        rw [decide_eq_false (fun e => h3 (by rw [e]))]
      · (repeat (first | simp (maxSteps := 2000000) (disch := omega) only [go_sem, ↓reduceIte] | with_reducible refine vIf_t ?_ | with_reducible refine vIf_f ?_))
        refine again (k + 1) ⟨by omega, by rw [take_succ_gi _ _ (by omega), take_succ_gi _ _ (by omega), he, h3]⟩ (by omega) ?_
        ((repeat (first | simp (maxSteps := 2000000) (disch := omega) only [go_sem, ↓reduceIte] | with_reducible refine vIf_t ?_ | with_reducible refine vIf_f ?_)); all_goals (try simp); all_goals (try omega))
    · (repeat (first | simp (maxSteps := 2000000) (disch := omega) only [go_sem, ↓reduceIte] | with_reducible refine vIf_t ?_ | with_reducible refine vIf_f ?_))
      (refine retK_of ?_; (repeat (first | simp (maxSteps := 2000000) (disch := omega) only [go_sem, ↓reduceIte] | with_reducible refine vIf_t ?_ | with_reducible refine vIf_f ?_)))
      rw [List.take_of_length_le (by omega), List.take_of_length_le (by omega)] at he
      simp [he]
theorem f6same_ok (xs : List Int) (hl : xs.length ≤ 10000000) : ACalls Tryz.prog 8 [.sl xs.length (ints xs), .sl xs.length (ints xs)] [] (fun r o => r = B true ∧ o = []) :=
  (f6ints_ok xs xs hl).mono fun r o ⟨h1, h2⟩ => ⟨by rw [h1]; simp, h2⟩
end Go.Proofs.YtpjjjonplikilaaGreat
namespace Go.Proofs.YtpjjjonplikilaaGreat
open Go.AG Go.Lib

attribute [local go_sem] beq_self_eq_true bne_self_eq_false Bool.not_true Bool.not_false
theorem ofL_len (s : Slc) (a b : List Int) (m : Int) : (ofL s a b m).length ≤ a.length := by
  unfold ofL
  split
  · rw [orL_len]; exact Nat.le_refl _
  · simp
set_option maxHeartbeats 8000000 in
theorem drawRS_e {code : List Int} (g : SrOk code) : ACalls Tryz.prog 10 [bS code] [] (fun r o => ∃ (s : Slc) (os a b : List Int), r = .tup [.agg s.cells, .ref 0 0 os.length, .sl a.length (ints a), .sl b.length (ints b)] ∧ o = [oI os] ∧ os.length ≤ 210 ∧ a.length ≤ 201 ∧ b.length ≤ 201) := by
  refine ACalls.of_vc Tryz.func10 rfl (by decide) 71 rfl [.cell 2 34, .tmp 3, .tmp 4, .tmp 5] rfl (by simp) ?_
  have hf := from_e g
  unfold bS at hf ⊢
  (repeat (first | simp (disch := omega) only [go_sem, ↓reduceIte] | with_reducible refine vIf_t ?_ | with_reducible refine vIf_f ?_))
  (refine vCallX_of ?_; (repeat (first | simp (disch := omega) only [go_sem, ↓reduceIte] | with_reducible refine vIf_t ?_ | with_reducible refine vIf_f ?_)); refine vCall_eq (hf) (by simp (disch := omega) only [go_sem]) rfl (by first | exact Or.inl rfl | exact Or.inr ⟨rfl, rfl⟩ | (apply Or.inr; simp only [go_sem])) ?_; (repeat (first | simp (disch := omega) only [go_sem, ↓reduceIte] | with_reducible refine vIf_t ?_ | with_reducible refine vIf_f ?_)))
  (refine vCallX_io [1] ?_; (repeat (first | simp (disch := omega) only [go_sem, ↓reduceIte] | with_reducible refine vIf_t ?_ | with_reducible refine vIf_f ?_)); refine vCallIO_ex (l09Draw_e g ⟨0, 0⟩ (by simp)) (by simp (disch := omega) only [go_sem]) (by simp (disch := omega) only [go_sem]) (by first | rfl | (simp (disch := omega) only [go_sem])) (by first | rfl | (simp (disch := omega) only [go_sem])) (by first | rfl | (simp (disch := omega) only [go_sem])) ?_); rintro _ _ ⟨s, σ1, rfl, rfl, h1⟩; (refine ⟨by first | (simp (disch := omega) only [go_sem]) | trivial, ?_⟩; (repeat (first | simp (disch := omega) only [go_sem, ↓reduceIte] | with_reducible refine vIf_t ?_ | with_reducible refine vIf_f ?_)))
  simp only at h1
  unfold Slc.cells
  (repeat (first | simp (disch := omega) only [go_sem, ↓reduceIte] | with_reducible refine vIf_t ?_ | with_reducible refine vIf_f ?_))
  (refine vCallX_io [1] ?_; (repeat (first | simp (disch := omega) only [go_sem, ↓reduceIte] | with_reducible refine vIf_t ?_ | with_reducible refine vIf_f ?_)); refine vCallIO_ex (l09Run_e g σ1 (by omega)) (by simp (disch := omega) only [go_sem]) (by simp (disch := omega) only [go_sem]) (by first | rfl | (simp (disch := omega) only [go_sem])) (by first | rfl | (simp (disch := omega) only [go_sem])) (by first | rfl | (simp (disch := omega) only [go_sem])) ?_); rintro _ _ ⟨a, b, σ2, rfl, rfl, h2, h3, h4⟩; (refine ⟨by first | (simp (disch := omega) only [go_sem]) | trivial, ?_⟩; (repeat (first | simp (disch := omega) only [go_sem, ↓reduceIte] | with_reducible refine vIf_t ?_ | with_reducible refine vIf_f ?_)))
  have hown := ordersForS_own s a b 10 (by omega) (by omega)
  have hol := ofL_len s a b 10
  unfold Slc.cells at hown
  by_cases hc : ofC s a b 10 = 0
  · have h0 := hown.mono (Q' := fun r o => r = .tup [.ref 0 0 (ofL s a b 10).length, I 0] ∧ o = [oI (ofL s a b 10)]) fun r o h => by
      rcases h with ⟨_, h⟩ | ⟨h, _⟩
      · rw [hc] at h; exact h
      · exact absurd hc h
    generalize ofL s a b 10 = xs at *
    (refine vCallX_of ?_; (repeat (first | simp (disch := omega) only [go_sem, ↓reduceIte] | with_reducible refine vIf_t ?_ | with_reducible refine vIf_f ?_)); refine vCall_eq (h0) (by simp (disch := omega) only [go_sem]) rfl (by first | exact Or.inl rfl | exact Or.inr ⟨rfl, rfl⟩ | (apply Or.inr; simp only [go_sem])) ?_; (repeat (first | simp (disch := omega) only [go_sem, ↓reduceIte] | with_reducible refine vIf_t ?_ | with_reducible refine vIf_f ?_)))
    (refine vCallX_io [1] ?_; (repeat (first | simp (disch := omega) only [go_sem, ↓reduceIte] | with_reducible refine vIf_t ?_ | with_reducible refine vIf_f ?_)); refine vCallIO_ex (one_e g 4 σ2 (by omega)) (by simp (disch := omega) only [go_sem]) (by simp (disch := omega) only [go_sem]) (by first | rfl | (simp (disch := omega) only [go_sem])) (by first | rfl | (simp (disch := omega) only [go_sem])) (by first | rfl | (simp (disch := omega) only [go_sem])) ?_); rintro _ _ ⟨c, σ3, rfl, rfl, h5⟩; (refine ⟨by first | (simp (disch := omega) only [go_sem]) | trivial, ?_⟩; (repeat (first | simp (disch := omega) only [go_sem, ↓reduceIte] | with_reducible refine vIf_t ?_ | with_reducible refine vIf_f ?_)))
    refine vIf_bool (fun h => ?_) (fun h => ?_)
    · (repeat (first | simp (disch := omega) only [go_sem, ↓reduceIte] | with_reducible refine vIf_t ?_ | with_reducible refine vIf_f ?_))
      refine vcLoop_invF (fun x : Nat × List Int × Sr => x.1 ≤ a.length ∧ x.2.1.length ≤ x.1 ∧ x.2.2.pos ≤ 2000 + 4 * x.1) (fun x => ⟨71, 0, [(2, .ptr 0 0), (6, .ptr 1 0), (7, .ptr 2 0), (10, .ref 3 0 x.2.1.length), (12, I x.1), (9, .sl b.length (ints b)), (8, .sl a.length (ints a))], [some ⟨2, [I 0, I 0]⟩, srO code x.2.2, some ⟨2, [I s.wd, I s.sill]⟩, oI x.2.1]⟩) (fun x => a.length - x.1) (0, [], σ3) ⟨by simp, by simp, by simp only; omega⟩ (by (first | (refine leF_s ?_; ((repeat (first | simp (disch := omega) only [go_sem, ↓reduceIte] | with_reducible refine vIf_t ?_ | with_reducible refine vIf_f ?_)); all_goals (try simp); all_goals (try omega)); done) | (refine leF_p ?_; ((repeat (first | simp (disch := omega) only [go_sem, ↓reduceIte] | with_reducible refine vIf_t ?_ | with_reducible refine vIf_f ?_)); all_goals (try simp); all_goals (try omega)); done))) ?_
      rintro ⟨k, xs, σk⟩ ⟨g1, g2, g3⟩
      simp only at g1 g2 g3
      (repeat (first | simp (disch := omega) only [go_sem, ↓reduceIte] | with_reducible refine vIf_t ?_ | with_reducible refine vIf_f ?_))
      refine vIf_dec (fun hh => ?_) (fun hh => ?_)
      · (repeat (first | simp (disch := omega) only [go_sem, ↓reduceIte] | with_reducible refine vIf_t ?_ | with_reducible refine vIf_f ?_))
        (refine vCallX_io [1] ?_; (repeat (first | simp (disch := omega) only [go_sem, ↓reduceIte] | with_reducible refine vIf_t ?_ | with_reducible refine vIf_f ?_)); refine vCallIO_ex (pick_e g 3 σk (by omega)) (by simp (disch := omega) only [go_sem]) (by simp (disch := omega) only [go_sem]) (by first | rfl | (simp (disch := omega) only [go_sem])) (by first | rfl | (simp (disch := omega) only [go_sem])) (by first | rfl | (simp (disch := omega) only [go_sem])) ?_); rintro _ _ ⟨p1, τa, rfl, rfl, y1, y2, y3⟩; (refine ⟨by first | (simp (disch := omega) only [go_sem]) | trivial, ?_⟩; (repeat (first | simp (disch := omega) only [go_sem, ↓reduceIte] | with_reducible refine vIf_t ?_ | with_reducible refine vIf_f ?_)))
        (refine vCallX_io [1] ?_; (repeat (first | simp (disch := omega) only [go_sem, ↓reduceIte] | with_reducible refine vIf_t ?_ | with_reducible refine vIf_f ?_)); refine vCallIO_ex (pick_e g 2 τa (by omega)) (by simp (disch := omega) only [go_sem]) (by simp (disch := omega) only [go_sem]) (by first | rfl | (simp (disch := omega) only [go_sem])) (by first | rfl | (simp (disch := omega) only [go_sem])) (by first | rfl | (simp (disch := omega) only [go_sem])) ?_); rintro _ _ ⟨p2, τb, rfl, rfl, z1, z2, z3⟩; (refine ⟨by first | (simp (disch := omega) only [go_sem]) | trivial, ?_⟩; (repeat (first | simp (disch := omega) only [go_sem, ↓reduceIte] | with_reducible refine vIf_t ?_ | with_reducible refine vIf_f ?_)))
        refine againF ((k + 1, xs ++ [IntKind.wrap .i64 (p1 * p2)], τb)) ?_ ?_ (by (first | (refine leF_s ?_; ((repeat (first | simp (disch := omega) only [go_sem, ↓reduceIte] | with_reducible refine vIf_t ?_ | with_reducible refine vIf_f ?_)); all_goals (try simp); all_goals (try omega)); done) | (refine leF_p ?_; ((repeat (first | simp (disch := omega) only [go_sem, ↓reduceIte] | with_reducible refine vIf_t ?_ | with_reducible refine vIf_f ?_)); all_goals (try simp); all_goals (try omega)); done)))
        · exact ⟨by simp only; omega, by simp; omega, by simp only; omega⟩
        · simp only; omega
      · (repeat (first | simp (disch := omega) only [go_sem, ↓reduceIte] | with_reducible refine vIf_t ?_ | with_reducible refine vIf_f ?_))
        by_cases h0 : 0 < xs.length
        · have h0b : decide (0 < (xs.length : Int)) = true := decide_eq_true (by omega)
          (repeat (first | simp (disch := omega) only [go_sem, ↓reduceIte, h0b] | with_reducible refine vIf_t ?_ | with_reducible refine vIf_f ?_))
          (refine vCallX_io [1] ?_; (repeat (first | simp (disch := omega) only [go_sem, ↓reduceIte] | with_reducible refine vIf_t ?_ | with_reducible refine vIf_f ?_)); refine vCallIO_ex (one_e g 12 σk (by omega)) (by simp (disch := omega) only [go_sem]) (by simp (disch := omega) only [go_sem]) (by first | rfl | (simp (disch := omega) only [go_sem])) (by first | rfl | (simp (disch := omega) only [go_sem])) (by first | rfl | (simp (disch := omega) only [go_sem])) ?_); rintro _ _ ⟨c1, τ1, rfl, rfl, t1⟩; (refine ⟨by first | (simp (disch := omega) only [go_sem]) | trivial, ?_⟩; (repeat (first | simp (disch := omega) only [go_sem, ↓reduceIte] | with_reducible refine vIf_t ?_ | with_reducible refine vIf_f ?_)))
          refine vIf_bool (fun h => ?_) (fun h => ?_)
          · (repeat (first | simp (disch := omega) only [go_sem, ↓reduceIte] | with_reducible refine vIf_t ?_ | with_reducible refine vIf_f ?_))
            (refine vCallX_io [1, 4] ?_; (repeat (first | simp (disch := omega) only [go_sem, ↓reduceIte] | with_reducible refine vIf_t ?_ | with_reducible refine vIf_f ?_)); refine vCallIO_ex (among_l g [-1, 0, 2, 3] τ1 (by omega) (by simp) _ rfl _ rfl) (by simp (disch := omega) only [go_sem]) (by simp (disch := omega) only [go_sem]) (by first | rfl | (simp (disch := omega) only [go_sem])) (by first | rfl | (simp (disch := omega) only [go_sem])) (by first | rfl | (simp (disch := omega) only [go_sem])) ?_); rintro _ _ ⟨w2, τ2, rfl, rfl, u1, u2⟩; (refine ⟨by first | (simp (disch := omega) only [go_sem]) | trivial, ?_⟩; (repeat (first | simp (disch := omega) only [go_sem, ↓reduceIte] | with_reducible refine vIf_t ?_ | with_reducible refine vIf_f ?_)))
            (refine vCallX_io [1] ?_; (repeat (first | simp (disch := omega) only [go_sem, ↓reduceIte] | with_reducible refine vIf_t ?_ | with_reducible refine vIf_f ?_)); refine vCallIO_ex (one_e g 20 τ2 (by omega)) (by simp (disch := omega) only [go_sem]) (by simp (disch := omega) only [go_sem]) (by first | rfl | (simp (disch := omega) only [go_sem])) (by first | rfl | (simp (disch := omega) only [go_sem])) (by first | rfl | (simp (disch := omega) only [go_sem])) ?_); rintro _ _ ⟨c3, τ3, rfl, rfl, t3⟩; (refine ⟨by first | (simp (disch := omega) only [go_sem]) | trivial, ?_⟩; (repeat (first | simp (disch := omega) only [go_sem, ↓reduceIte] | with_reducible refine vIf_t ?_ | with_reducible refine vIf_f ?_)))
            refine vIf_bool (fun h => ?_) (fun h => ?_)
            · (repeat (first | simp (disch := omega) only [go_sem, ↓reduceIte] | with_reducible refine vIf_t ?_ | with_reducible refine vIf_f ?_))
              (refine retK_of ?_; (repeat (first | simp (disch := omega) only [go_sem, ↓reduceIte] | with_reducible refine vIf_t ?_ | with_reducible refine vIf_f ?_)))
              exact ⟨s, xs.set 0 w2 ++ [0], a, b, by simp, by first | rfl | simp only [List.take_of_length_le (show (xs.set 0 w2).length ≤ xs.length by simp)], by simp; omega, h2, h3⟩
            · (repeat (first | simp (disch := omega) only [go_sem, ↓reduceIte] | with_reducible refine vIf_t ?_ | with_reducible refine vIf_f ?_))
              (refine retK_of ?_; (repeat (first | simp (disch := omega) only [go_sem, ↓reduceIte] | with_reducible refine vIf_t ?_ | with_reducible refine vIf_f ?_)))
              exact ⟨s, xs.set 0 w2, a, b, by simp, rfl, by simp; omega, h2, h3⟩
          · (repeat (first | simp (disch := omega) only [go_sem, ↓reduceIte] | with_reducible refine vIf_t ?_ | with_reducible refine vIf_f ?_))
            (refine vCallX_io [1] ?_; (repeat (first | simp (disch := omega) only [go_sem, ↓reduceIte] | with_reducible refine vIf_t ?_ | with_reducible refine vIf_f ?_)); refine vCallIO_ex (one_e g 20 τ1 (by omega)) (by simp (disch := omega) only [go_sem]) (by simp (disch := omega) only [go_sem]) (by first | rfl | (simp (disch := omega) only [go_sem])) (by first | rfl | (simp (disch := omega) only [go_sem])) (by first | rfl | (simp (disch := omega) only [go_sem])) ?_); rintro _ _ ⟨c3, τ3, rfl, rfl, t3⟩; (refine ⟨by first | (simp (disch := omega) only [go_sem]) | trivial, ?_⟩; (repeat (first | simp (disch := omega) only [go_sem, ↓reduceIte] | with_reducible refine vIf_t ?_ | with_reducible refine vIf_f ?_)))
            refine vIf_bool (fun h => ?_) (fun h => ?_)
            · (repeat (first | simp (disch := omega) only [go_sem, ↓reduceIte] | with_reducible refine vIf_t ?_ | with_reducible refine vIf_f ?_))
              (refine retK_of ?_; (repeat (first | simp (disch := omega) only [go_sem, ↓reduceIte] | with_reducible refine vIf_t ?_ | with_reducible refine vIf_f ?_)))
              exact ⟨s, xs ++ [0], a, b, by simp, rfl, by simp; omega, h2, h3⟩
            · (repeat (first | simp (disch := omega) only [go_sem, ↓reduceIte] | with_reducible refine vIf_t ?_ | with_reducible refine vIf_f ?_))
              (refine retK_of ?_; (repeat (first | simp (disch := omega) only [go_sem, ↓reduceIte] | with_reducible refine vIf_t ?_ | with_reducible refine vIf_f ?_)))
              exact ⟨s, xs, a, b, rfl, rfl, by omega, h2, h3⟩
        · have h0b : decide (0 < (xs.length : Int)) = false := decide_eq_false (by omega)
          (repeat (first | simp (disch := omega) only [go_sem, ↓reduceIte, h0b] | with_reducible refine vIf_t ?_ | with_reducible refine vIf_f ?_))
          (refine vCallX_io [1] ?_; (repeat (first | simp (disch := omega) only [go_sem, ↓reduceIte] | with_reducible refine vIf_t ?_ | with_reducible refine vIf_f ?_)); refine vCallIO_ex (one_e g 20 σk (by omega)) (by simp (disch := omega) only [go_sem]) (by simp (disch := omega) only [go_sem]) (by first | rfl | (simp (disch := omega) only [go_sem])) (by first | rfl | (simp (disch := omega) only [go_sem])) (by first | rfl | (simp (disch := omega) only [go_sem])) ?_); rintro _ _ ⟨c3, τ3, rfl, rfl, t3⟩; (refine ⟨by first | (simp (disch := omega) only [go_sem]) | trivial, ?_⟩; (repeat (first | simp (disch := omega) only [go_sem, ↓reduceIte] | with_reducible refine vIf_t ?_ | with_reducible refine vIf_f ?_)))
          refine vIf_bool (fun h => ?_) (fun h => ?_)
          · (repeat (first | simp (disch := omega) only [go_sem, ↓reduceIte] | with_reducible refine vIf_t ?_ | with_reducible refine vIf_f ?_))
            (refine retK_of ?_; (repeat (first | simp (disch := omega) only [go_sem, ↓reduceIte] | with_reducible refine vIf_t ?_ | with_reducible refine vIf_f ?_)))
            exact ⟨s, xs ++ [0], a, b, by simp, rfl, by simp; omega, h2, h3⟩
          · (repeat (first | simp (disch := omega) only [go_sem, ↓reduceIte] | with_reducible refine vIf_t ?_ | with_reducible refine vIf_f ?_))
            (refine retK_of ?_; (repeat (first | simp (disch := omega) only [go_sem, ↓reduceIte] | with_reducible refine vIf_t ?_ | with_reducible refine vIf_f ?_)))
            exact ⟨s, xs, a, b, rfl, rfl, by omega, h2, h3⟩
    · (repeat (first | simp (disch := omega) only [go_sem, ↓reduceIte] | with_reducible refine vIf_t ?_ | with_reducible refine vIf_f ?_))
      by_cases h0 : 0 < xs.length
      · have h0b : decide (0 < (xs.length : Int)) = true := decide_eq_true (by omega)
        (repeat (first | simp (disch := omega) only [go_sem, ↓reduceIte, h0b] | with_reducible refine vIf_t ?_ | with_reducible refine vIf_f ?_))
        (refine vCallX_io [1] ?_; (repeat (first | simp (disch := omega) only [go_sem, ↓reduceIte] | with_reducible refine vIf_t ?_ | with_reducible refine vIf_f ?_)); refine vCallIO_ex (one_e g 12 σ3 (by omega)) (by simp (disch := omega) only [go_sem]) (by simp (disch := omega) only [go_sem]) (by first | rfl | (simp (disch := omega) only [go_sem])) (by first | rfl | (simp (disch := omega) only [go_sem])) (by first | rfl | (simp (disch := omega) only [go_sem])) ?_); rintro _ _ ⟨c1, τ1, rfl, rfl, t1⟩; (refine ⟨by first | (simp (disch := omega) only [go_sem]) | trivial, ?_⟩; (repeat (first | simp (disch := omega) only [go_sem, ↓reduceIte] | with_reducible refine vIf_t ?_ | with_reducible refine vIf_f ?_)))
        refine vIf_bool (fun h => ?_) (fun h => ?_)
        · (repeat (first | simp (disch := omega) only [go_sem, ↓reduceIte] | with_reducible refine vIf_t ?_ | with_reducible refine vIf_f ?_))
          (refine vCallX_io [1, 4] ?_; (repeat (first | simp (disch := omega) only [go_sem, ↓reduceIte] | with_reducible refine vIf_t ?_ | with_reducible refine vIf_f ?_)); refine vCallIO_ex (among_l g [-1, 0, 2, 3] τ1 (by omega) (by simp) _ rfl _ rfl) (by simp (disch := omega) only [go_sem]) (by simp (disch := omega) only [go_sem]) (by first | rfl | (simp (disch := omega) only [go_sem])) (by first | rfl | (simp (disch := omega) only [go_sem])) (by first | rfl | (simp (disch := omega) only [go_sem])) ?_); rintro _ _ ⟨w2, τ2, rfl, rfl, u1, u2⟩; (refine ⟨by first | (simp (disch := omega) only [go_sem]) | trivial, ?_⟩; (repeat (first | simp (disch := omega) only [go_sem, ↓reduceIte] | with_reducible refine vIf_t ?_ | with_reducible refine vIf_f ?_)))
          (refine vCallX_io [1] ?_; (repeat (first | simp (disch := omega) only [go_sem, ↓reduceIte] | with_reducible refine vIf_t ?_ | with_reducible refine vIf_f ?_)); refine vCallIO_ex (one_e g 20 τ2 (by omega)) (by simp (disch := omega) only [go_sem]) (by simp (disch := omega) only [go_sem]) (by first | rfl | (simp (disch := omega) only [go_sem])) (by first | rfl | (simp (disch := omega) only [go_sem])) (by first | rfl | (simp (disch := omega) only [go_sem])) ?_); rintro _ _ ⟨c3, τ3, rfl, rfl, t3⟩; (refine ⟨by first | (simp (disch := omega) only [go_sem]) | trivial, ?_⟩; (repeat (first | simp (disch := omega) only [go_sem, ↓reduceIte] | with_reducible refine vIf_t ?_ | with_reducible refine vIf_f ?_)))
          refine vIf_bool (fun h => ?_) (fun h => ?_)
          · (repeat (first | simp (disch := omega) only [go_sem, ↓reduceIte] | with_reducible refine vIf_t ?_ | with_reducible refine vIf_f ?_))
            (refine retK_of ?_; (repeat (first | simp (disch := omega) only [go_sem, ↓reduceIte] | with_reducible refine vIf_t ?_ | with_reducible refine vIf_f ?_)))
            exact ⟨s, xs.set 0 w2 ++ [0], a, b, by simp, by first | rfl | simp only [List.take_of_length_le (show (xs.set 0 w2).length ≤ xs.length by simp)], by simp; omega, h2, h3⟩
          · (repeat (first | simp (disch := omega) only [go_sem, ↓reduceIte] | with_reducible refine vIf_t ?_ | with_reducible refine vIf_f ?_))
            (refine retK_of ?_; (repeat (first | simp (disch := omega) only [go_sem, ↓reduceIte] | with_reducible refine vIf_t ?_ | with_reducible refine vIf_f ?_)))
            exact ⟨s, xs.set 0 w2, a, b, by simp, rfl, by simp; omega, h2, h3⟩
        · (repeat (first | simp (disch := omega) only [go_sem, ↓reduceIte] | with_reducible refine vIf_t ?_ | with_reducible refine vIf_f ?_))
          (refine vCallX_io [1] ?_; (repeat (first | simp (disch := omega) only [go_sem, ↓reduceIte] | with_reducible refine vIf_t ?_ | with_reducible refine vIf_f ?_)); refine vCallIO_ex (one_e g 20 τ1 (by omega)) (by simp (disch := omega) only [go_sem]) (by simp (disch := omega) only [go_sem]) (by first | rfl | (simp (disch := omega) only [go_sem])) (by first | rfl | (simp (disch := omega) only [go_sem])) (by first | rfl | (simp (disch := omega) only [go_sem])) ?_); rintro _ _ ⟨c3, τ3, rfl, rfl, t3⟩; (refine ⟨by first | (simp (disch := omega) only [go_sem]) | trivial, ?_⟩; (repeat (first | simp (disch := omega) only [go_sem, ↓reduceIte] | with_reducible refine vIf_t ?_ | with_reducible refine vIf_f ?_)))
          refine vIf_bool (fun h => ?_) (fun h => ?_)
          · (repeat (first | simp (disch := omega) only [go_sem, ↓reduceIte] | with_reducible refine vIf_t ?_ | with_reducible refine vIf_f ?_))
            (refine retK_of ?_; (repeat (first | simp (disch := omega) only [go_sem, ↓reduceIte] | with_reducible refine vIf_t ?_ | with_reducible refine vIf_f ?_)))
            exact ⟨s, xs ++ [0], a, b, by simp, rfl, by simp; omega, h2, h3⟩
          · (repeat (first | simp (disch := omega) only [go_sem, ↓reduceIte] | with_reducible refine vIf_t ?_ | with_reducible refine vIf_f ?_))
            (refine retK_of ?_; (repeat (first | simp (disch := omega) only [go_sem, ↓reduceIte] | with_reducible refine vIf_t ?_ | with_reducible refine vIf_f ?_)))
            exact ⟨s, xs, a, b, rfl, rfl, by omega, h2, h3⟩
      · have h0b : decide (0 < (xs.length : Int)) = false := decide_eq_false (by omega)
        (repeat (first | simp (disch := omega) only [go_sem, ↓reduceIte, h0b] | with_reducible refine vIf_t ?_ | with_reducible refine vIf_f ?_))
        (refine vCallX_io [1] ?_; (repeat (first | simp (disch := omega) only [go_sem, ↓reduceIte] | with_reducible refine vIf_t ?_ | with_reducible refine vIf_f ?_)); refine vCallIO_ex (one_e g 20 σ3 (by omega)) (by simp (disch := omega) only [go_sem]) (by simp (disch := omega) only [go_sem]) (by first | rfl | (simp (disch := omega) only [go_sem])) (by first | rfl | (simp (disch := omega) only [go_sem])) (by first | rfl | (simp (disch := omega) only [go_sem])) ?_); rintro _ _ ⟨c3, τ3, rfl, rfl, t3⟩; (refine ⟨by first | (simp (disch := omega) only [go_sem]) | trivial, ?_⟩; (repeat (first | simp (disch := omega) only [go_sem, ↓reduceIte] | with_reducible refine vIf_t ?_ | with_reducible refine vIf_f ?_)))
        refine vIf_bool (fun h => ?_) (fun h => ?_)
        · (repeat (first | simp (disch := omega) only [go_sem, ↓reduceIte] | with_reducible refine vIf_t ?_ | with_reducible refine vIf_f ?_))
          (refine retK_of ?_; (repeat (first | simp (disch := omega) only [go_sem, ↓reduceIte] | with_reducible refine vIf_t ?_ | with_reducible refine vIf_f ?_)))
          exact ⟨s, xs ++ [0], a, b, by simp, rfl, by simp; omega, h2, h3⟩
        · (repeat (first | simp (disch := omega) only [go_sem, ↓reduceIte] | with_reducible refine vIf_t ?_ | with_reducible refine vIf_f ?_))
          (refine retK_of ?_; (repeat (first | simp (disch := omega) only [go_sem, ↓reduceIte] | with_reducible refine vIf_t ?_ | with_reducible refine vIf_f ?_)))
          exact ⟨s, xs, a, b, rfl, rfl, by omega, h2, h3⟩
  · have hcb : (ofC s a b 10 != 0) = true := by simpa using hc
    have h0 := hown.mono (Q' := fun r o => r = .tup [.sc (.slice none 0 0), I (ofC s a b 10)] ∧ o = []) fun r o h => by
      rcases h with ⟨h, _⟩ | ⟨_, _, h⟩
      · exact absurd h hc
      · exact h
    (refine vCallX_of ?_; (repeat (first | simp (disch := omega) only [go_sem, ↓reduceIte] | with_reducible refine vIf_t ?_ | with_reducible refine vIf_f ?_)); refine vCall_eq (h0) (by simp (disch := omega) only [go_sem]) rfl (by first | exact Or.inl rfl | exact Or.inr ⟨rfl, rfl⟩ | (apply Or.inr; simp only [go_sem])) ?_; (repeat (first | simp (disch := omega) only [go_sem, ↓reduceIte] | with_reducible refine vIf_t ?_ | with_reducible refine vIf_f ?_)))
    (repeat (first | simp (disch := omega) only [go_sem, ↓reduceIte, hcb] | with_reducible refine vIf_t ?_ | with_reducible refine vIf_f ?_))
    refine vcLoop_invF (fun x : Nat × List Int × Sr => x.1 ≤ a.length ∧ x.2.1.length ≤ x.1 ∧ x.2.2.pos ≤ 2000 + 4 * x.1) (fun x => ⟨71, 0, [(2, .ptr 0 0), (6, .ptr 1 0), (7, .ptr 2 0), (10, .ref 3 0 x.2.1.length), (12, I x.1), (9, .sl b.length (ints b)), (8, .sl a.length (ints a))], [some ⟨2, [I 0, I 0]⟩, srO code x.2.2, some ⟨2, [I s.wd, I s.sill]⟩, oI x.2.1]⟩) (fun x => a.length - x.1) (0, [], σ2) ⟨by simp, by simp, by simp only; omega⟩ (by (first | (refine leF_s ?_; ((repeat (first | simp (disch := omega) only [go_sem, ↓reduceIte] | with_reducible refine vIf_t ?_ | with_reducible refine vIf_f ?_)); all_goals (try simp); all_goals (try omega)); done) | (refine leF_p ?_; ((repeat (first | simp (disch := omega) only [go_sem, ↓reduceIte] | with_reducible refine vIf_t ?_ | with_reducible refine vIf_f ?_)); all_goals (try simp); all_goals (try omega)); done))) ?_
    rintro ⟨k, xs, σk⟩ ⟨g1, g2, g3⟩
    simp only at g1 g2 g3
    (repeat (first | simp (disch := omega) only [go_sem, ↓reduceIte] | with_reducible refine vIf_t ?_ | with_reducible refine vIf_f ?_))
    refine vIf_dec (fun hh => ?_) (fun hh => ?_)
    · (repeat (first | simp (disch := omega) only [go_sem, ↓reduceIte] | with_reducible refine vIf_t ?_ | with_reducible refine vIf_f ?_))
      (refine vCallX_io [1] ?_; (repeat (first | simp (disch := omega) only [go_sem, ↓reduceIte] | with_reducible refine vIf_t ?_ | with_reducible refine vIf_f ?_)); refine vCallIO_ex (pick_e g 3 σk (by omega)) (by simp (disch := omega) only [go_sem]) (by simp (disch := omega) only [go_sem]) (by first | rfl | (simp (disch := omega) only [go_sem])) (by first | rfl | (simp (disch := omega) only [go_sem])) (by first | rfl | (simp (disch := omega) only [go_sem])) ?_); rintro _ _ ⟨p1, τa, rfl, rfl, y1, y2, y3⟩; (refine ⟨by first | (simp (disch := omega) only [go_sem]) | trivial, ?_⟩; (repeat (first | simp (disch := omega) only [go_sem, ↓reduceIte] | with_reducible refine vIf_t ?_ | with_reducible refine vIf_f ?_)))
      (refine vCallX_io [1] ?_; (repeat (first | simp (disch := omega) only [go_sem, ↓reduceIte] | with_reducible refine vIf_t ?_ | with_reducible refine vIf_f ?_)); refine vCallIO_ex (pick_e g 2 τa (by omega)) (by simp (disch := omega) only [go_sem]) (by simp (disch := omega) only [go_sem]) (by first | rfl | (simp (disch := omega) only [go_sem])) (by first | rfl | (simp (disch := omega) only [go_sem])) (by first | rfl | (simp (disch := omega) only [go_sem])) ?_); rintro _ _ ⟨p2, τb, rfl, rfl, z1, z2, z3⟩; (refine ⟨by first | (simp (disch := omega) only [go_sem]) | trivial, ?_⟩; (repeat (first | simp (disch := omega) only [go_sem, ↓reduceIte] | with_reducible refine vIf_t ?_ | with_reducible refine vIf_f ?_)))
      refine againF ((k + 1, xs ++ [IntKind.wrap .i64 (p1 * p2)], τb)) ?_ ?_ (by (first | (refine leF_s ?_; ((repeat (first | simp (disch := omega) only [go_sem, ↓reduceIte] | with_reducible refine vIf_t ?_ | with_reducible refine vIf_f ?_)); all_goals (try simp); all_goals (try omega)); done) | (refine leF_p ?_; ((repeat (first | simp (disch := omega) only [go_sem, ↓reduceIte] | with_reducible refine vIf_t ?_ | with_reducible refine vIf_f ?_)); all_goals (try simp); all_goals (try omega)); done)))
      · exact ⟨by simp only; omega, by simp; omega, by simp only; omega⟩
      · simp only; omega
    · (repeat (first | simp (disch := omega) only [go_sem, ↓reduceIte] | with_reducible refine vIf_t ?_ | with_reducible refine vIf_f ?_))
      by_cases h0 : 0 < xs.length
      · have h0b : decide (0 < (xs.length : Int)) = true := decide_eq_true (by omega)
        (repeat (first | simp (disch := omega) only [go_sem, ↓reduceIte, h0b] | with_reducible refine vIf_t ?_ | with_reducible refine vIf_f ?_))
        (refine vCallX_io [1] ?_; (repeat (first | simp (disch := omega) only [go_sem, ↓reduceIte] | with_reducible refine vIf_t ?_ | with_reducible refine vIf_f ?_)); refine vCallIO_ex (one_e g 12 σk (by omega)) (by simp (disch := omega) only [go_sem]) (by simp (disch := omega) only [go_sem]) (by first | rfl | (simp (disch := omega) only [go_sem])) (by first | rfl | (simp (disch := omega) only [go_sem])) (by first | rfl | (simp (disch := omega) only [go_sem])) ?_); rintro _ _ ⟨c1, τ1, rfl, rfl, t1⟩; (refine ⟨by first | (simp (disch := omega) only [go_sem]) | trivial, ?_⟩; (repeat (first | simp (disch := omega) only [go_sem, ↓reduceIte] | with_reducible refine vIf_t ?_ | with_reducible refine vIf_f ?_)))
        refine vIf_bool (fun h => ?_) (fun h => ?_)
        · (repeat (first | simp (disch := omega) only [go_sem, ↓reduceIte] | with_reducible refine vIf_t ?_ | with_reducible refine vIf_f ?_))
          (refine vCallX_io [1, 4] ?_; (repeat (first | simp (disch := omega) only [go_sem, ↓reduceIte] | with_reducible refine vIf_t ?_ | with_reducible refine vIf_f ?_)); refine vCallIO_ex (among_l g [-1, 0, 2, 3] τ1 (by omega) (by simp) _ rfl _ rfl) (by simp (disch := omega) only [go_sem]) (by simp (disch := omega) only [go_sem]) (by first | rfl | (simp (disch := omega) only [go_sem])) (by first | rfl | (simp (disch := omega) only [go_sem])) (by first | rfl | (simp (disch := omega) only [go_sem])) ?_); rintro _ _ ⟨w2, τ2, rfl, rfl, u1, u2⟩; (refine ⟨by first | (simp (disch := omega) only [go_sem]) | trivial, ?_⟩; (repeat (first | simp (disch := omega) only [go_sem, ↓reduceIte] | with_reducible refine vIf_t ?_ | with_reducible refine vIf_f ?_)))
          (refine vCallX_io [1] ?_; (repeat (first | simp (disch := omega) only [go_sem, ↓reduceIte] | with_reducible refine vIf_t ?_ | with_reducible refine vIf_f ?_)); refine vCallIO_ex (one_e g 20 τ2 (by omega)) (by simp (disch := omega) only [go_sem]) (by simp (disch := omega) only [go_sem]) (by first | rfl | (simp (disch := omega) only [go_sem])) (by first | rfl | (simp (disch := omega) only [go_sem])) (by first | rfl | (simp (disch := omega) only [go_sem])) ?_); rintro _ _ ⟨c3, τ3, rfl, rfl, t3⟩; (refine ⟨by first | (simp (disch := omega) only [go_sem]) | trivial, ?_⟩; (repeat (first | simp (disch := omega) only [go_sem, ↓reduceIte] | with_reducible refine vIf_t ?_ | with_reducible refine vIf_f ?_)))
          refine vIf_bool (fun h => ?_) (fun h => ?_)
          · (repeat (first | simp (disch := omega) only [go_sem, ↓reduceIte] | with_reducible refine vIf_t ?_ | with_reducible refine vIf_f ?_))
            (refine retK_of ?_; (repeat (first | simp (disch := omega) only [go_sem, ↓reduceIte] | with_reducible refine vIf_t ?_ | with_reducible refine vIf_f ?_)))
            exact ⟨s, xs.set 0 w2 ++ [0], a, b, by simp, by first | rfl | simp only [List.take_of_length_le (show (xs.set 0 w2).length ≤ xs.length by simp)], by simp; omega, h2, h3⟩
          · (repeat (first | simp (disch := omega) only [go_sem, ↓reduceIte] | with_reducible refine vIf_t ?_ | with_reducible refine vIf_f ?_))
            (refine retK_of ?_; (repeat (first | simp (disch := omega) only [go_sem, ↓reduceIte] | with_reducible refine vIf_t ?_ | with_reducible refine vIf_f ?_)))
            exact ⟨s, xs.set 0 w2, a, b, by simp, rfl, by simp; omega, h2, h3⟩
        · (repeat (first | simp (disch := omega) only [go_sem, ↓reduceIte] | with_reducible refine vIf_t ?_ | with_reducible refine vIf_f ?_))
          (refine vCallX_io [1] ?_; (repeat (first | simp (disch := omega) only [go_sem, ↓reduceIte] | with_reducible refine vIf_t ?_ | with_reducible refine vIf_f ?_)); refine vCallIO_ex (one_e g 20 τ1 (by omega)) (by simp (disch := omega) only [go_sem]) (by simp (disch := omega) only [go_sem]) (by first | rfl | (simp (disch := omega) only [go_sem])) (by first | rfl | (simp (disch := omega) only [go_sem])) (by first | rfl | (simp (disch := omega) only [go_sem])) ?_); rintro _ _ ⟨c3, τ3, rfl, rfl, t3⟩; (refine ⟨by first | (simp (disch := omega) only [go_sem]) | trivial, ?_⟩; (repeat (first | simp (disch := omega) only [go_sem, ↓reduceIte] | with_reducible refine vIf_t ?_ | with_reducible refine vIf_f ?_)))
          refine vIf_bool (fun h => ?_) (fun h => ?_)
          · (repeat (first | simp (disch := omega) only [go_sem, ↓reduceIte] | with_reducible refine vIf_t ?_ | with_reducible refine vIf_f ?_))
            (refine retK_of ?_; (repeat (first | simp (disch := omega) only [go_sem, ↓reduceIte] | with_reducible refine vIf_t ?_ | with_reducible refine vIf_f ?_)))
            exact ⟨s, xs ++ [0], a, b, by simp, rfl, by simp; omega, h2, h3⟩
          · (repeat (first | simp (disch := omega) only [go_sem, ↓reduceIte] | with_reducible refine vIf_t ?_ | with_reducible refine vIf_f ?_))
            (refine retK_of ?_; (repeat (first | simp (disch := omega) only [go_sem, ↓reduceIte] | with_reducible refine vIf_t ?_ | with_reducible refine vIf_f ?_)))
            exact ⟨s, xs, a, b, rfl, rfl, by omega, h2, h3⟩
      · have h0b : decide (0 < (xs.length : Int)) = false := decide_eq_false (by omega)
        (repeat (first | simp (disch := omega) only [go_sem, ↓reduceIte, h0b] | with_reducible refine vIf_t ?_ | with_reducible refine vIf_f ?_))
        (refine vCallX_io [1] ?_; (repeat (first | simp (disch := omega) only [go_sem, ↓reduceIte] | with_reducible refine vIf_t ?_ | with_reducible refine vIf_f ?_)); refine vCallIO_ex (one_e g 20 σk (by omega)) (by simp (disch := omega) only [go_sem]) (by simp (disch := omega) only [go_sem]) (by first | rfl | (simp (disch := omega) only [go_sem])) (by first | rfl | (simp (disch := omega) only [go_sem])) (by first | rfl | (simp (disch := omega) only [go_sem])) ?_); rintro _ _ ⟨c3, τ3, rfl, rfl, t3⟩; (refine ⟨by first | (simp (disch := omega) only [go_sem]) | trivial, ?_⟩; (repeat (first | simp (disch := omega) only [go_sem, ↓reduceIte] | with_reducible refine vIf_t ?_ | with_reducible refine vIf_f ?_)))
        refine vIf_bool (fun h => ?_) (fun h => ?_)
        · (repeat (first | simp (disch := omega) only [go_sem, ↓reduceIte] | with_reducible refine vIf_t ?_ | with_reducible refine vIf_f ?_))
          (refine retK_of ?_; (repeat (first | simp (disch := omega) only [go_sem, ↓reduceIte] | with_reducible refine vIf_t ?_ | with_reducible refine vIf_f ?_)))
          exact ⟨s, xs ++ [0], a, b, by simp, rfl, by simp; omega, h2, h3⟩
        · (repeat (first | simp (disch := omega) only [go_sem, ↓reduceIte] | with_reducible refine vIf_t ?_ | with_reducible refine vIf_f ?_))
          (refine retK_of ?_; (repeat (first | simp (disch := omega) only [go_sem, ↓reduceIte] | with_reducible refine vIf_t ?_ | with_reducible refine vIf_f ?_)))
          exact ⟨s, xs, a, b, rfl, rfl, by omega, h2, h3⟩
end Go.Proofs.YtpjjjonplikilaaGreat

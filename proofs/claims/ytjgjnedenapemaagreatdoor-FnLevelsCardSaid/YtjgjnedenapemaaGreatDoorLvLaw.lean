/- the law of levels -/
import Derived.Test.YtjgjnedenapemaaGreatDoorLv2
import Derived.Test.YtjgjnedenapemaaGreatDoorLvD
import Derived.Test.YtjgjnedenapemaaGreatDoorLvS
import Derived.Test.YtjgjnedenapemaaGreatDoorRp7
import Derived.Test.YtjgjnedenapemaaGreatDoorF6
set_option linter.unusedVariables false
set_option linter.unusedSimpArgs false
namespace Go.Proofs.YtjgjnedenapemaaGreatDoor
-- steps 40000000
open Go.AG Go.Lib

attribute [local go_sem] beq_self_eq_true bne_self_eq_false Bool.not_true
def lvQ (l : List UInt8) : Bool := (rlO l).isSome
def lvW (l : List UInt8) : Int := (rlO l).getD 0
theorem rlV_eq (l : List UInt8) : rdR (rlO l) = .tup [I (lvW l), B (lvQ l)] := by
  unfold lvW lvQ
  cases rlO l <;> rfl
theorem txl_ne {l : List UInt8} : (!((tx l).toList == (tx []).toList)) = !l.isEmpty := by
  cases l with
  | nil => simp
  | cons a r => rw [tx_bq (by simp)]; rfl
theorem ixs_memL (n : Nat) (q : Nat → Bool) (j : Nat) (hj : j < (ixs n q).length) : ∃ i : Nat, gi (ixs n q) j = i ∧ i < n ∧ q i = true := by
  have hm := gi_mem _ _ hj
  generalize gi (ixs n q) j = x at hm ⊢
  simp only [ixs, List.mem_map, List.mem_filter, List.mem_range] at hm
  obtain ⟨i, ⟨h1, h2⟩, rfl⟩ := hm
  exact ⟨i, rfl, h1, h2⟩
structure WrF (xs : List Int) (m : Int) (W : List Int) (M : Int) (j : Nat) : Prop where
  b : 0 ≤ gi W j ∧ (gi W j).toNat < xs.length
  d : m < ((gi xs (gi W j).toNat - M).natAbs : Int)
  r : (-2000 ≤ gi xs (gi W j).toNat ∧ gi xs (gi W j).toNat ≤ 2000) ∧ (-2000 ≤ M ∧ M ≤ 2000)
theorem wr_fact {xs : List Int} {m : Int} {j : Nat} (hj : j < (wrL xs m).length) : WrF xs m (wrL xs m) (meV xs) j := by
  by_cases h : gaC xs 0 m = 0
  · have e : wrL xs m = ixs xs.length (wrB xs m) := if_pos h
    rw [e] at hj ⊢
    obtain ⟨i, e1, e2, e3⟩ := ixs_memL _ _ _ hj
    obtain ⟨hg, _⟩ := gaC_0 h
    have hm : meV xs = mdI xs := by
      have : mcC xs = 0 := by rw [mcC, if_pos hg, if_neg (by omega)]
      rw [meV, if_pos this]
    obtain ⟨b1, b2⟩ := md_lv hg e2
    have t : (gi (ixs xs.length (wrB xs m)) j).toNat = i := by omega
    refine ⟨by omega, ?_, ?_⟩
    · rw [t, hm]
      exact of_decide_eq_true e3
    · rw [t, hm]
      exact ⟨b2, b1⟩
  · have e : wrL xs m = [] := if_neg h
    rw [e] at hj
    simp at hj
theorem wrL_len (xs : List Int) (m : Int) : (wrL xs m).length ≤ xs.length := by
  unfold wrL
  split
  · exact ixs_len _ _
  · simp
theorem riL_len (xs : List Int) (m : Int) : (riL xs m).length ≤ xs.length := by
  unfold riL
  split
  · exact ixs_len _ _
  · simp
theorem mulbV {a b n m : Int} (ha : -n ≤ a ∧ a ≤ n) (hb : 0 ≤ b ∧ b ≤ m) (hn : 0 ≤ n) : -(n * m) ≤ a * b ∧ a * b ≤ n * m := by
  have h1 : a * b ≤ n * b := Int.mul_le_mul_of_nonneg_right ha.2 hb.1
  have h2 : n * b ≤ n * m := Int.mul_le_mul_of_nonneg_left hb.2 hn
  have h3 : (-n) * b ≤ a * b := Int.mul_le_mul_of_nonneg_right ha.1 hb.1
  rw [Int.neg_mul] at h3
  omega
structure MdF (xs : List Int) (M n d : Int) : Prop where
  lo : 2 * xs.countP (fun x => decide (x < M)) < xs.length
  hi : 2 * xs.countP (fun x => decide (M < x)) ≤ xs.length
  e : n * xs.length = wsum xs * d
  n : -120000 ≤ n ∧ n ≤ 120000
  d : 0 ≤ d ∧ d ≤ 60
  s : -120000 ≤ wsum xs ∧ wsum xs ≤ 120000
  l : xs.length ≤ 60
theorem md_fact {xs : List Int} (h : mcC xs = 0) : MdF xs (meV xs) (mnN xs) (mnD xs) := by
  obtain ⟨h1, h2, h3⟩ := mc_0 h
  obtain ⟨e, a, b⟩ := mean_law h
  have hm : meV xs = mdI xs := if_pos h
  rw [hm]
  exact ⟨below_md xs h2, above_md xs h2, e, a, b, wsum_lv ((gaB_iff _).1 h1).1 h3, h3⟩
set_option maxRecDepth 100000 in
set_option maxHeartbeats 64000000 in
theorem levelsLaw_ok (code : List Int) (hb : bOk code) (hl : code.length ≤ 9223372036854775807) : ACalls Tryz.prog 4 [bS code] [] (fun r o => r = B true ∧ o = []) := by
  refine ACalls.of_vc Tryz.func4 rfl (by decide) 295 rfl [.tmp 2] rfl (by simp) ?_
  have hbig := f6big_ok code hl
  unfold bS at hbig ⊢
  (repeat (first | simp (maxSteps := 40000000) (disch := omega) only [go_sem, ↓reduceIte] | with_reducible refine vIf_t ?_ | with_reducible refine vIf_f ?_))
  (refine vCallX_of ?_; (repeat (first | simp (maxSteps := 40000000) (disch := omega) only [go_sem, ↓reduceIte] | with_reducible refine vIf_t ?_ | with_reducible refine vIf_f ?_)); refine vCall_eq (hbig) (by simp (disch := omega) only [go_sem]) rfl (by first | exact Or.inl rfl | exact Or.inr ⟨rfl, rfl⟩ | (apply Or.inr; simp only [go_sem])) ?_; (repeat (first | simp (maxSteps := 40000000) (disch := omega) only [go_sem, ↓reduceIte] | with_reducible refine vIf_t ?_ | with_reducible refine vIf_f ?_)))
  refine vIf_dec (fun h => ?_) (fun h => ?_)
  · (repeat (first | simp (maxSteps := 40000000) (disch := omega) only [go_sem, ↓reduceIte] | with_reducible refine vIf_t ?_ | with_reducible refine vIf_f ?_))
    (refine retK_of ?_; (repeat (first | simp (maxSteps := 40000000) (disch := omega) only [go_sem, ↓reduceIte] | with_reducible refine vIf_t ?_ | with_reducible refine vIf_f ?_)))
  have g : SrOk code := ⟨hb, by omega⟩
  have hd1 := drawWG_e g
  have hd2 := drawLG_e g
  have hd3 := drawLT_e g
  have hd4 := drawRL_e g
  have hd5 := drawVD_e g
  unfold bS at hd1 hd2 hd3 hd4 hd5
  (repeat (first | simp (maxSteps := 40000000) (disch := omega) only [go_sem, ↓reduceIte] | with_reducible refine vIf_t ?_ | with_reducible refine vIf_f ?_))
  (refine vCallX_of ?_; (repeat (first | simp (maxSteps := 40000000) (disch := omega) only [go_sem, ↓reduceIte] | with_reducible refine vIf_t ?_ | with_reducible refine vIf_f ?_)); refine vCall_ex (hd1) (by simp (disch := omega) only [go_sem]) rfl ?_); rintro _ _ ⟨xs, m, rfl, rfl, hn⟩; (refine ⟨(by first | exact Or.inl rfl | exact Or.inr ⟨rfl, rfl⟩ | (apply Or.inr; simp only [go_sem])), ?_⟩; (repeat (first | simp (maxSteps := 40000000) (disch := omega) only [go_sem, ↓reduceIte] | with_reducible refine vIf_t ?_ | with_reducible refine vIf_f ?_)))
  have p1 := RowR.fz (wrongG_ok xs m (by omega))
  have p2 := RowR.fz (wrongGS_ok xs m (by omega))
  have p3 := median_ok xs (by omega)
  have p4 := medianS_ok xs (by omega)
  have p5 := mean_ok xs (by omega)
  have p6 := meanS_ok xs (by omega)
  have p7 := RowR.fz (risesG_ok xs m (by omega))
  have p8 := RowR.fz (risesGS_ok xs m (by omega))
  have F1 := fun j hj => wr_fact (xs := xs) (m := m) (j := j) hj
  have F2 := @md_fact xs
  have hwl := wrL_len xs m
  have hrl := riL_len xs m
  generalize wrL xs m = W at *
  generalize riL xs m = R at *
  generalize gaC xs 0 m = k1 at *
  generalize gaC xs 1 m = k2 at *
  generalize mcC xs = k3 at *
  generalize meV xs = M at *
  generalize mnN xs = mn at *
  generalize mnD xs = md at *
  (refine vCallX_fz 0 _ rfl (by (repeat (first | simp (maxSteps := 40000000) (disch := omega) only [go_sem, ↓reduceIte] | with_reducible refine vIf_t ?_ | with_reducible refine vIf_f ?_))) ?_; (repeat (first | simp (maxSteps := 40000000) (disch := omega) only [go_sem, ↓reduceIte] | with_reducible refine vIf_t ?_ | with_reducible refine vIf_f ?_)))
  (refine vCallX_keep [3, 4, 0, 50, 51] rfl ?_; (repeat (first | simp (maxSteps := 40000000) (disch := omega) only [go_sem, ↓reduceIte] | with_reducible refine vIf_t ?_ | with_reducible refine vIf_f ?_)))
  (refine vCallX_of ?_; (repeat (first | simp (maxSteps := 40000000) (disch := omega) only [go_sem, ↓reduceIte] | with_reducible refine vIf_t ?_ | with_reducible refine vIf_f ?_)); refine vCall_eq (p1) (by simp (disch := omega) only [go_sem]) rfl (by first | exact Or.inl rfl | exact Or.inr ⟨rfl, rfl⟩ | (apply Or.inr; simp only [go_sem])) ?_; (repeat (first | simp (maxSteps := 40000000) (disch := omega) only [go_sem, ↓reduceIte] | with_reducible refine vIf_t ?_ | with_reducible refine vIf_f ?_)))
  (refine vCallX_keep [3, 4, 0, 5, 6, 56, 57] rfl ?_; (repeat (first | simp (maxSteps := 40000000) (disch := omega) only [go_sem, ↓reduceIte] | with_reducible refine vIf_t ?_ | with_reducible refine vIf_f ?_)))
  (refine vCallX_of ?_; (repeat (first | simp (maxSteps := 40000000) (disch := omega) only [go_sem, ↓reduceIte] | with_reducible refine vIf_t ?_ | with_reducible refine vIf_f ?_)); refine vCall_eq (p2) (by simp (disch := omega) only [go_sem]) rfl (by first | exact Or.inl rfl | exact Or.inr ⟨rfl, rfl⟩ | (apply Or.inr; simp only [go_sem])) ?_; (repeat (first | simp (maxSteps := 40000000) (disch := omega) only [go_sem, ↓reduceIte] | with_reducible refine vIf_t ?_ | with_reducible refine vIf_f ?_)))
  (refine vCallX_keep [3, 4, 7, 0, 5, 8, 6, 62] rfl ?_; (repeat (first | simp (maxSteps := 40000000) (disch := omega) only [go_sem, ↓reduceIte] | with_reducible refine vIf_t ?_ | with_reducible refine vIf_f ?_)))
  (refine vCallX_of ?_; (repeat (first | simp (maxSteps := 40000000) (disch := omega) only [go_sem, ↓reduceIte] | with_reducible refine vIf_t ?_ | with_reducible refine vIf_f ?_)); refine vCall_eq (p3) (by simp (disch := omega) only [go_sem]) rfl (by first | exact Or.inl rfl | exact Or.inr ⟨rfl, rfl⟩ | (apply Or.inr; simp only [go_sem])) ?_; (repeat (first | simp (maxSteps := 40000000) (disch := omega) only [go_sem, ↓reduceIte] | with_reducible refine vIf_t ?_ | with_reducible refine vIf_f ?_)))
  (refine vCallX_keep [9, 3, 4, 7, 10, 0, 5, 8, 6, 67] rfl ?_; (repeat (first | simp (maxSteps := 40000000) (disch := omega) only [go_sem, ↓reduceIte] | with_reducible refine vIf_t ?_ | with_reducible refine vIf_f ?_)))
  (refine vCallX_of ?_; (repeat (first | simp (maxSteps := 40000000) (disch := omega) only [go_sem, ↓reduceIte] | with_reducible refine vIf_t ?_ | with_reducible refine vIf_f ?_)); refine vCall_eq (p4) (by simp (disch := omega) only [go_sem]) rfl (by first | exact Or.inl rfl | exact Or.inr ⟨rfl, rfl⟩ | (apply Or.inr; simp only [go_sem])) ?_; (repeat (first | simp (maxSteps := 40000000) (disch := omega) only [go_sem, ↓reduceIte] | with_reducible refine vIf_t ?_ | with_reducible refine vIf_f ?_)))
  (refine vCallX_keep [9, 3, 4, 11, 7, 10, 0, 12, 5, 8, 6, 72] rfl ?_; (repeat (first | simp (maxSteps := 40000000) (disch := omega) only [go_sem, ↓reduceIte] | with_reducible refine vIf_t ?_ | with_reducible refine vIf_f ?_)))
  (refine vCallX_of ?_; (repeat (first | simp (maxSteps := 40000000) (disch := omega) only [go_sem, ↓reduceIte] | with_reducible refine vIf_t ?_ | with_reducible refine vIf_f ?_)); refine vCall_eq (p5) (by simp (disch := omega) only [go_sem]) rfl (by first | exact Or.inl rfl | exact Or.inr ⟨rfl, rfl⟩ | (apply Or.inr; simp only [go_sem])) ?_; (repeat (first | simp (maxSteps := 40000000) (disch := omega) only [go_sem, ↓reduceIte] | with_reducible refine vIf_t ?_ | with_reducible refine vIf_f ?_)))
  (refine vCallX_keep [9, 3, 4, 11, 7, 13, 10, 0, 14, 12, 5, 8, 6, 77] rfl ?_; (repeat (first | simp (maxSteps := 40000000) (disch := omega) only [go_sem, ↓reduceIte] | with_reducible refine vIf_t ?_ | with_reducible refine vIf_f ?_)))
  (refine vCallX_of ?_; (repeat (first | simp (maxSteps := 40000000) (disch := omega) only [go_sem, ↓reduceIte] | with_reducible refine vIf_t ?_ | with_reducible refine vIf_f ?_)); refine vCall_eq (p6) (by simp (disch := omega) only [go_sem]) rfl (by first | exact Or.inl rfl | exact Or.inr ⟨rfl, rfl⟩ | (apply Or.inr; simp only [go_sem])) ?_; (repeat (first | simp (maxSteps := 40000000) (disch := omega) only [go_sem, ↓reduceIte] | with_reducible refine vIf_t ?_ | with_reducible refine vIf_f ?_)))
  (refine vCallX_keep [9, 3, 4, 11, 7, 13, 10, 0, 15, 16, 14, 12, 5, 8, 6, 82, 83] rfl ?_; (repeat (first | simp (maxSteps := 40000000) (disch := omega) only [go_sem, ↓reduceIte] | with_reducible refine vIf_t ?_ | with_reducible refine vIf_f ?_)))
  (refine vCallX_of ?_; (repeat (first | simp (maxSteps := 40000000) (disch := omega) only [go_sem, ↓reduceIte] | with_reducible refine vIf_t ?_ | with_reducible refine vIf_f ?_)); refine vCall_eq (p7) (by simp (disch := omega) only [go_sem]) rfl (by first | exact Or.inl rfl | exact Or.inr ⟨rfl, rfl⟩ | (apply Or.inr; simp only [go_sem])) ?_; (repeat (first | simp (maxSteps := 40000000) (disch := omega) only [go_sem, ↓reduceIte] | with_reducible refine vIf_t ?_ | with_reducible refine vIf_f ?_)))
  (refine vCallX_keep [9, 3, 4, 11, 7, 13, 10, 0, 17, 18, 15, 16, 14, 12, 5, 8, 6, 88, 89] rfl ?_; (repeat (first | simp (maxSteps := 40000000) (disch := omega) only [go_sem, ↓reduceIte] | with_reducible refine vIf_t ?_ | with_reducible refine vIf_f ?_)))
  (refine vCallX_of ?_; (repeat (first | simp (maxSteps := 40000000) (disch := omega) only [go_sem, ↓reduceIte] | with_reducible refine vIf_t ?_ | with_reducible refine vIf_f ?_)); refine vCall_eq (p8) (by simp (disch := omega) only [go_sem]) rfl (by first | exact Or.inl rfl | exact Or.inr ⟨rfl, rfl⟩ | (apply Or.inr; simp only [go_sem])) ?_; (repeat (first | simp (maxSteps := 40000000) (disch := omega) only [go_sem, ↓reduceIte] | with_reducible refine vIf_t ?_ | with_reducible refine vIf_f ?_)))
  (refine vCallX_keep [9, 3, 4, 11, 7, 13, 10, 0, 19, 17, 20, 18, 15, 16, 14, 12, 5, 8, 6, 94] rfl ?_; (repeat (first | simp (maxSteps := 40000000) (disch := omega) only [go_sem, ↓reduceIte] | with_reducible refine vIf_t ?_ | with_reducible refine vIf_f ?_)))
  (refine vCallX_of ?_; (repeat (first | simp (maxSteps := 40000000) (disch := omega) only [go_sem, ↓reduceIte] | with_reducible refine vIf_t ?_ | with_reducible refine vIf_f ?_)); refine vCall_ex (hd2) (by simp (disch := omega) only [go_sem]) rfl ?_); rintro _ _ ⟨z, rd, rfl, rfl⟩; (refine ⟨(by first | exact Or.inl rfl | exact Or.inr ⟨rfl, rfl⟩ | (apply Or.inr; simp only [go_sem])), ?_⟩; (repeat (first | simp (maxSteps := 40000000) (disch := omega) only [go_sem, ↓reduceIte] | with_reducible refine vIf_t ?_ | with_reducible refine vIf_f ?_)))
  have p9 := levelG_ok z rd
  have p10 := levelGS_ok z rd
  generalize lgV z rd = lg at *
  generalize lgC z rd = k4 at *
  (refine vCallX_keep [9, 3, 4, 11, 7, 13, 10, 0, 19, 17, 20, 18, 15, 16, 14, 12, 5, 8, 6, 22, 21, 99, 100] rfl ?_; (repeat (first | simp (maxSteps := 40000000) (disch := omega) only [go_sem, ↓reduceIte] | with_reducible refine vIf_t ?_ | with_reducible refine vIf_f ?_)))
  (refine vCallX_of ?_; (repeat (first | simp (maxSteps := 40000000) (disch := omega) only [go_sem, ↓reduceIte] | with_reducible refine vIf_t ?_ | with_reducible refine vIf_f ?_)); refine vCall_eq (p9) (by simp (disch := omega) only [go_sem]) rfl (by first | exact Or.inl rfl | exact Or.inr ⟨rfl, rfl⟩ | (apply Or.inr; simp only [go_sem])) ?_; (repeat (first | simp (maxSteps := 40000000) (disch := omega) only [go_sem, ↓reduceIte] | with_reducible refine vIf_t ?_ | with_reducible refine vIf_f ?_)))
  (refine vCallX_keep [9, 3, 4, 11, 7, 13, 10, 0, 23, 24, 19, 17, 20, 18, 15, 16, 14, 12, 5, 8, 6, 22, 21, 105, 106] rfl ?_; (repeat (first | simp (maxSteps := 40000000) (disch := omega) only [go_sem, ↓reduceIte] | with_reducible refine vIf_t ?_ | with_reducible refine vIf_f ?_)))
  (refine vCallX_of ?_; (repeat (first | simp (maxSteps := 40000000) (disch := omega) only [go_sem, ↓reduceIte] | with_reducible refine vIf_t ?_ | with_reducible refine vIf_f ?_)); refine vCall_eq (p10) (by simp (disch := omega) only [go_sem]) rfl (by first | exact Or.inl rfl | exact Or.inr ⟨rfl, rfl⟩ | (apply Or.inr; simp only [go_sem])) ?_; (repeat (first | simp (maxSteps := 40000000) (disch := omega) only [go_sem, ↓reduceIte] | with_reducible refine vIf_t ?_ | with_reducible refine vIf_f ?_)))
  (refine vCallX_keep [9, 3, 4, 11, 7, 13, 10, 0, 25, 23, 26, 24, 19, 17, 20, 18, 15, 16, 14, 12, 5, 8, 6, 110] rfl ?_; (repeat (first | simp (maxSteps := 40000000) (disch := omega) only [go_sem, ↓reduceIte] | with_reducible refine vIf_t ?_ | with_reducible refine vIf_f ?_)))
  (refine vCallX_of ?_; (repeat (first | simp (maxSteps := 40000000) (disch := omega) only [go_sem, ↓reduceIte] | with_reducible refine vIf_t ?_ | with_reducible refine vIf_f ?_)); refine vCall_ex (hd3) (by simp (disch := omega) only [go_sem]) rfl ?_); rintro _ _ ⟨t, rfl, rfl⟩; (refine ⟨(by first | exact Or.inl rfl | exact Or.inr ⟨rfl, rfl⟩ | (apply Or.inr; simp only [go_sem])), ?_⟩; (repeat (first | simp (maxSteps := 40000000) (disch := omega) only [go_sem, ↓reduceIte] | with_reducible refine vIf_t ?_ | with_reducible refine vIf_f ?_)))
  obtain ⟨T, hT⟩ : ∃ T, T = lvT t := ⟨_, rfl⟩
  have p11 := lvText_ok t
  have p12 := lvTextS_ok t
  rw [← hT] at p11 p12
  have hTl : T.length < 24 := by
    rw [hT, lvT]; split
    · have := lvE_len t ‹_›; omega
    · simp
  have p13 := readLv_ok T hTl
  rw [rlV_eq] at p13
  have hok : (!((tx T).toList == (tx []).toList)) = lvQ T ∧ (lvQ T = true → lvW T = t) := by
    rw [hT, lvT]
    by_cases hv : -2000 ≤ t ∧ t ≤ 2000
    · rw [if_pos hv]
      refine ⟨?_, fun _ => by rw [lvW, rlO_back hv]; rfl⟩
      rw [txl_ne, lvQ, rlO_back hv]
      cases h : lvE t with
      | nil => exact absurd h (lvE_ne t)
      | cons a r => rfl
    · rw [if_neg hv]
      have e : rlO [] = none := rlO_none fun n _ e => lvE_ne n e
      exact ⟨by rw [txl_ne, lvQ, e]; rfl, fun q => by rw [lvQ, e] at q; simp at q⟩
  obtain ⟨hk1, hk2⟩ := hok
  generalize lvQ T = ok at *
  generalize lvW T = bk at *
  (refine vCallX_keep [9, 3, 4, 11, 7, 13, 10, 0, 27, 25, 23, 26, 24, 19, 17, 20, 18, 15, 16, 14, 12, 5, 8, 6, 112] rfl ?_; (repeat (first | simp (maxSteps := 40000000) (disch := omega) only [go_sem, ↓reduceIte] | with_reducible refine vIf_t ?_ | with_reducible refine vIf_f ?_)))
  (refine vCallX_of ?_; (repeat (first | simp (maxSteps := 40000000) (disch := omega) only [go_sem, ↓reduceIte] | with_reducible refine vIf_t ?_ | with_reducible refine vIf_f ?_)); refine vCall_eq (p11) (by simp (disch := omega) only [go_sem]) rfl (by first | exact Or.inl rfl | exact Or.inr ⟨rfl, rfl⟩ | (apply Or.inr; simp only [go_sem])) ?_; (repeat (first | simp (maxSteps := 40000000) (disch := omega) only [go_sem, ↓reduceIte] | with_reducible refine vIf_t ?_ | with_reducible refine vIf_f ?_)))
  (refine vCallX_keep [9, 3, 4, 11, 7, 13, 10, 0, 27, 28, 25, 23, 26, 24, 19, 17, 20, 18, 15, 16, 14, 12, 5, 8, 6, 115] rfl ?_; (repeat (first | simp (maxSteps := 40000000) (disch := omega) only [go_sem, ↓reduceIte] | with_reducible refine vIf_t ?_ | with_reducible refine vIf_f ?_)))
  (refine vCallX_of ?_; (repeat (first | simp (maxSteps := 40000000) (disch := omega) only [go_sem, ↓reduceIte] | with_reducible refine vIf_t ?_ | with_reducible refine vIf_f ?_)); refine vCall_eq (p13) (by simp (disch := omega) only [go_sem]) rfl (by first | exact Or.inl rfl | exact Or.inr ⟨rfl, rfl⟩ | (apply Or.inr; simp only [go_sem])) ?_; (repeat (first | simp (maxSteps := 40000000) (disch := omega) only [go_sem, ↓reduceIte] | with_reducible refine vIf_t ?_ | with_reducible refine vIf_f ?_)))
  (refine vCallX_keep [9, 3, 4, 11, 7, 13, 10, 0, 27, 29, 30, 28, 25, 23, 26, 24, 19, 17, 20, 18, 15, 16, 14, 12, 5, 8, 6, 119] rfl ?_; (repeat (first | simp (maxSteps := 40000000) (disch := omega) only [go_sem, ↓reduceIte] | with_reducible refine vIf_t ?_ | with_reducible refine vIf_f ?_)))
  (refine vCallX_of ?_; (repeat (first | simp (maxSteps := 40000000) (disch := omega) only [go_sem, ↓reduceIte] | with_reducible refine vIf_t ?_ | with_reducible refine vIf_f ?_)); refine vCall_ex (hd4) (by simp (disch := omega) only [go_sem]) rfl ?_); rintro _ _ ⟨l, rfl, rfl, hll⟩; (refine ⟨(by first | exact Or.inl rfl | exact Or.inr ⟨rfl, rfl⟩ | (apply Or.inr; simp only [go_sem])), ?_⟩; (repeat (first | simp (maxSteps := 40000000) (disch := omega) only [go_sem, ↓reduceIte] | with_reducible refine vIf_t ?_ | with_reducible refine vIf_f ?_)))
  have p14 := readLv_ok l (by omega)
  have p15 := readLvS_ok l (by omega)
  rw [rlV_eq] at p14 p15
  generalize lvQ l = ok2 at *
  generalize lvW l = bk2 at *
  (refine vCallX_keep [9, 3, 4, 11, 7, 13, 10, 0, 27, 29, 30, 28, 25, 23, 26, 24, 19, 17, 20, 18, 15, 16, 14, 12, 5, 8, 6, 31, 122] rfl ?_; (repeat (first | simp (maxSteps := 40000000) (disch := omega) only [go_sem, ↓reduceIte] | with_reducible refine vIf_t ?_ | with_reducible refine vIf_f ?_)))
  (refine vCallX_of ?_; (repeat (first | simp (maxSteps := 40000000) (disch := omega) only [go_sem, ↓reduceIte] | with_reducible refine vIf_t ?_ | with_reducible refine vIf_f ?_)); refine vCall_eq (p14) (by simp (disch := omega) only [go_sem]) rfl (by first | exact Or.inl rfl | exact Or.inr ⟨rfl, rfl⟩ | (apply Or.inr; simp only [go_sem])) ?_; (repeat (first | simp (maxSteps := 40000000) (disch := omega) only [go_sem, ↓reduceIte] | with_reducible refine vIf_t ?_ | with_reducible refine vIf_f ?_)))
  (refine vCallX_keep [9, 3, 4, 11, 7, 13, 10, 0, 27, 32, 33, 29, 30, 28, 25, 23, 26, 24, 19, 17, 20, 18, 15, 16, 14, 12, 5, 8, 6, 31, 127] rfl ?_; (repeat (first | simp (maxSteps := 40000000) (disch := omega) only [go_sem, ↓reduceIte] | with_reducible refine vIf_t ?_ | with_reducible refine vIf_f ?_)))
  (refine vCallX_of ?_; (repeat (first | simp (maxSteps := 40000000) (disch := omega) only [go_sem, ↓reduceIte] | with_reducible refine vIf_t ?_ | with_reducible refine vIf_f ?_)); refine vCall_eq (p15) (by simp (disch := omega) only [go_sem]) rfl (by first | exact Or.inl rfl | exact Or.inr ⟨rfl, rfl⟩ | (apply Or.inr; simp only [go_sem])) ?_; (repeat (first | simp (maxSteps := 40000000) (disch := omega) only [go_sem, ↓reduceIte] | with_reducible refine vIf_t ?_ | with_reducible refine vIf_f ?_)))
  have q1 := f6same_ok W (by omega)
  have q2 := f6same_ok R (by omega)
  have q3 := lv_ok t
  have q4 := lvGS_ok t
  (refine vCallX_keep [9, 3, 4, 11, 7, 13, 10, 0, 27, 34, 32, 35, 33, 29, 30, 28, 25, 23, 26, 24, 19, 17, 20, 18, 15, 16, 14, 12, 5, 8, 6, 134, 135, 136] rfl ?_; (repeat (first | simp (maxSteps := 40000000) (disch := omega) only [go_sem, ↓reduceIte] | with_reducible refine vIf_t ?_ | with_reducible refine vIf_f ?_)))
  (refine vCallX_of ?_; (repeat (first | simp (maxSteps := 40000000) (disch := omega) only [go_sem, ↓reduceIte] | with_reducible refine vIf_t ?_ | with_reducible refine vIf_f ?_)); refine vCall_eq (q1) (by simp (disch := omega) only [go_sem]) rfl (by first | exact Or.inl rfl | exact Or.inr ⟨rfl, rfl⟩ | (apply Or.inr; simp only [go_sem])) ?_; (repeat (first | simp (maxSteps := 40000000) (disch := omega) only [go_sem, ↓reduceIte] | with_reducible refine vIf_t ?_ | with_reducible refine vIf_f ?_)))
  (refine vCallX_keep [9, 3, 4, 11, 7, 13, 10, 0, 27, 34, 32, 35, 33, 29, 30, 28, 25, 23, 26, 24, 19, 17, 20, 18, 15, 16, 14, 12, 5, 8, 6, 165, 166, 167] rfl ?_; (repeat (first | simp (maxSteps := 40000000) (disch := omega) only [go_sem, ↓reduceIte] | with_reducible refine vIf_t ?_ | with_reducible refine vIf_f ?_)))
  (refine vCallX_of ?_; (repeat (first | simp (maxSteps := 40000000) (disch := omega) only [go_sem, ↓reduceIte] | with_reducible refine vIf_t ?_ | with_reducible refine vIf_f ?_)); refine vCall_eq (q2) (by simp (disch := omega) only [go_sem]) rfl (by first | exact Or.inl rfl | exact Or.inr ⟨rfl, rfl⟩ | (apply Or.inr; simp only [go_sem])) ?_; (repeat (first | simp (maxSteps := 40000000) (disch := omega) only [go_sem, ↓reduceIte] | with_reducible refine vIf_t ?_ | with_reducible refine vIf_f ?_)))
  (refine vCallX_keep [9, 3, 4, 11, 7, 13, 10, 0, 27, 34, 32, 35, 33, 29, 30, 28, 25, 23, 26, 24, 19, 17, 20, 18, 15, 16, 14, 12, 5, 8, 6, 181, 182, 183] rfl ?_; (repeat (first | simp (maxSteps := 40000000) (disch := omega) only [go_sem, ↓reduceIte] | with_reducible refine vIf_t ?_ | with_reducible refine vIf_f ?_)))
  (refine vCallX_of ?_; (repeat (first | simp (maxSteps := 40000000) (disch := omega) only [go_sem, ↓reduceIte] | with_reducible refine vIf_t ?_ | with_reducible refine vIf_f ?_)); refine vCall_eq (p12) (by simp (disch := omega) only [go_sem]) rfl (by first | exact Or.inl rfl | exact Or.inr ⟨rfl, rfl⟩ | (apply Or.inr; simp only [go_sem])) ?_; (repeat (first | simp (maxSteps := 40000000) (disch := omega) only [go_sem, ↓reduceIte] | with_reducible refine vIf_t ?_ | with_reducible refine vIf_f ?_)))
  (try (repeat (first | simp (maxSteps := 40000000) (disch := omega) only [go_sem, ↓reduceIte, hk1] | with_reducible refine vIf_t ?_ | with_reducible refine vIf_f ?_)))
  apply joinLv
  · intro common
    cases ok with
    | true =>
      have hcmp : (bk != t) = false := by rw [hk2 rfl]; simp
      (repeat (first | simp (maxSteps := 40000000) (disch := omega) only [go_sem, ↓reduceIte, hcmp] | with_reducible refine vIf_t ?_ | with_reducible refine vIf_f ?_))
      (refine vCallX_keep [9, 3, 4, 11, 7, 13, 10, 0, 27, 210, 211, 212] rfl ?_; (repeat (first | simp (maxSteps := 40000000) (disch := omega) only [go_sem, ↓reduceIte] | with_reducible refine vIf_t ?_ | with_reducible refine vIf_f ?_)))
      exact common.out
    | false =>
      (repeat (first | simp (maxSteps := 40000000) (disch := omega) only [go_sem, ↓reduceIte] | with_reducible refine vIf_t ?_ | with_reducible refine vIf_f ?_))
      (refine vCallX_keep [9, 3, 4, 11, 7, 13, 10, 0, 27, 210, 211, 212] rfl ?_; (repeat (first | simp (maxSteps := 40000000) (disch := omega) only [go_sem, ↓reduceIte] | with_reducible refine vIf_t ?_ | with_reducible refine vIf_f ?_)))
      exact common.out
  (refine vCallX_of ?_; (repeat (first | simp (maxSteps := 40000000) (disch := omega) only [go_sem, ↓reduceIte] | with_reducible refine vIf_t ?_ | with_reducible refine vIf_f ?_)); refine vCall_eq (q3) (by simp (disch := omega) only [go_sem]) rfl (by first | exact Or.inl rfl | exact Or.inr ⟨rfl, rfl⟩ | (apply Or.inr; simp only [go_sem])) ?_; (repeat (first | simp (maxSteps := 40000000) (disch := omega) only [go_sem, ↓reduceIte] | with_reducible refine vIf_t ?_ | with_reducible refine vIf_f ?_)))
  (refine vCallX_of ?_; (repeat (first | simp (maxSteps := 40000000) (disch := omega) only [go_sem, ↓reduceIte] | with_reducible refine vIf_t ?_ | with_reducible refine vIf_f ?_)); refine vCall_eq (q4) (by simp (disch := omega) only [go_sem]) rfl (by first | exact Or.inl rfl | exact Or.inr ⟨rfl, rfl⟩ | (apply Or.inr; simp only [go_sem])) ?_; (repeat (first | simp (maxSteps := 40000000) (disch := omega) only [go_sem, ↓reduceIte] | with_reducible refine vIf_t ?_ | with_reducible refine vIf_f ?_)))
  (try (repeat (first | simp (maxSteps := 40000000) (disch := omega) only [go_sem, ↓reduceIte] | with_reducible refine vIf_t ?_ | with_reducible refine vIf_f ?_)))
  (refine vCallX_keep [9, 3, 4, 11, 7, 13, 10, 0, 218] rfl ?_; (repeat (first | simp (maxSteps := 40000000) (disch := omega) only [go_sem, ↓reduceIte] | with_reducible refine vIf_t ?_ | with_reducible refine vIf_f ?_)))
  (refine vCallX_of ?_; (repeat (first | simp (maxSteps := 40000000) (disch := omega) only [go_sem, ↓reduceIte] | with_reducible refine vIf_t ?_ | with_reducible refine vIf_f ?_)); refine vCall_ex (hd5) (by simp (disch := omega) only [go_sem]) rfl ?_); rintro _ _ ⟨day, rfl, rfl⟩; (refine ⟨(by first | exact Or.inl rfl | exact Or.inr ⟨rfl, rfl⟩ | (apply Or.inr; simp only [go_sem])), ?_⟩; (repeat (first | simp (maxSteps := 40000000) (disch := omega) only [go_sem, ↓reduceIte] | with_reducible refine vIf_t ?_ | with_reducible refine vIf_f ?_)))
  have q5 := dayG_ok day
  have q6 := dayGS_ok day
  (refine vCallX_keep [9, 3, 4, 11, 7, 13, 10, 36, 220] rfl ?_; (repeat (first | simp (maxSteps := 40000000) (disch := omega) only [go_sem, ↓reduceIte] | with_reducible refine vIf_t ?_ | with_reducible refine vIf_f ?_)))
  (refine vCallX_of ?_; (repeat (first | simp (maxSteps := 40000000) (disch := omega) only [go_sem, ↓reduceIte] | with_reducible refine vIf_t ?_ | with_reducible refine vIf_f ?_)); refine vCall_eq (q5) (by simp (disch := omega) only [go_sem]) rfl (by first | exact Or.inl rfl | exact Or.inr ⟨rfl, rfl⟩ | (apply Or.inr; simp only [go_sem])) ?_; (repeat (first | simp (maxSteps := 40000000) (disch := omega) only [go_sem, ↓reduceIte] | with_reducible refine vIf_t ?_ | with_reducible refine vIf_f ?_)))
  (refine vCallX_of ?_; (repeat (first | simp (maxSteps := 40000000) (disch := omega) only [go_sem, ↓reduceIte] | with_reducible refine vIf_t ?_ | with_reducible refine vIf_f ?_)); refine vCall_eq (q6) (by simp (disch := omega) only [go_sem]) rfl (by first | exact Or.inl rfl | exact Or.inr ⟨rfl, rfl⟩ | (apply Or.inr; simp only [go_sem])) ?_; (repeat (first | simp (maxSteps := 40000000) (disch := omega) only [go_sem, ↓reduceIte] | with_reducible refine vIf_t ?_ | with_reducible refine vIf_f ?_)))
  (try (repeat (first | simp (maxSteps := 40000000) (disch := omega) only [go_sem, ↓reduceIte] | with_reducible refine vIf_t ?_ | with_reducible refine vIf_f ?_)))
  clear p1 p2 p3 p4 p5 p6 p7 p8 p9 p10 p11 p12 p13 p14 p15 q1 q2 q3 q4 q5 q6 hd1 hd2 hd3 hd4 hd5
  apply joinLv
  · intro common
    by_cases h3 : k3 = 0
    · have b3 : (k3 == 0) = true := by simpa using h3
      obtain ⟨flo, fhi, fe, fn, fd, fs, fl⟩ := F2 h3
      have hsum := f6sum_ok xs (by omega)
      (repeat (first | simp (maxSteps := 40000000) (disch := omega) only [go_sem, ↓reduceIte, b3] | with_reducible refine vIf_t ?_ | with_reducible refine vIf_f ?_))
      refine vcLoop_invF (fun k : Nat => k ≤ xs.length) (fun k => ⟨295, 0, [(39, I k), (38, I ((xs.take k).countP (fun x => decide (M < x)) : Nat)), (37, I ((xs.take k).countP (fun x => decide (x < M)) : Nat)), (9, I M), (3, .sl xs.length (ints xs)), (4, I m), (11, I M), (7, .sl W.length (ints W)), (13, .ptr 1 0)], [none, some ⟨2, [I mn, I md]⟩, some ⟨2, [I mn, I md]⟩]⟩) (fun k => xs.length - k) 0 (by omega) (by (first | (refine leF_s ?_; ((repeat (first | simp (maxSteps := 40000000) (disch := omega) only [go_sem, ↓reduceIte] | with_reducible refine vIf_t ?_ | with_reducible refine vIf_f ?_)); all_goals (try simp); all_goals (try omega)); done) | (refine leF_p ?_; ((repeat (first | simp (maxSteps := 40000000) (disch := omega) only [go_sem, ↓reduceIte] | with_reducible refine vIf_t ?_ | with_reducible refine vIf_f ?_)); all_goals (try simp); all_goals (try omega)); done))) ?_
      intro k hk
      have hc1 : (xs.take k).countP (fun x => decide (M < x)) ≤ k := by
        have := List.countP_le_length (p := fun x => decide (M < x)) (l := xs.take k)
        rw [List.length_take] at this; omega
      have hc2 : (xs.take k).countP (fun x => decide (x < M)) ≤ k := by
        have := List.countP_le_length (p := fun x => decide (x < M)) (l := xs.take k)
        rw [List.length_take] at this; omega
      (repeat (first | simp (maxSteps := 40000000) (disch := omega) only [go_sem, ↓reduceIte] | with_reducible refine vIf_t ?_ | with_reducible refine vIf_f ?_))
      refine vIf_dec (fun h => ?_) (fun h => ?_)
      · have hkl : k < xs.length := by omega
        have e1 := countP_snoc (fun x => decide (M < x)) xs k hkl
        have e2 := countP_snoc (fun x => decide (x < M)) xs k hkl
        simp only [decide_eq_true_eq] at e1 e2
        generalize (xs.take k).countP (fun x => decide (M < x)) = A at *
        generalize (xs.take k).countP (fun x => decide (x < M)) = L at *
        rcases Int.lt_trichotomy (gi xs k) M with c | c | c
        · have d1 := decide_eq_true c
          have d2 : decide (M < gi xs k) = false := decide_eq_false (by omega)
          rw [if_neg (by omega)] at e1
          rw [if_pos c] at e2
          (try (repeat (first | simp (maxSteps := 40000000) (disch := omega) only [go_sem, ↓reduceIte, d1, d2] | with_reducible refine vIf_t ?_ | with_reducible refine vIf_f ?_)))
          refine againF (k + 1) (by omega) (by omega) ?_
          rw [e1, e2]
          (first | (refine leF_s ?_; ((repeat (first | simp (maxSteps := 40000000) (disch := omega) only [go_sem, ↓reduceIte] | with_reducible refine vIf_t ?_ | with_reducible refine vIf_f ?_)); all_goals (try simp); all_goals (try omega)); done) | (refine leF_p ?_; ((repeat (first | simp (maxSteps := 40000000) (disch := omega) only [go_sem, ↓reduceIte] | with_reducible refine vIf_t ?_ | with_reducible refine vIf_f ?_)); all_goals (try simp); all_goals (try omega)); done))
        · have d1 : decide (gi xs k < M) = false := decide_eq_false (by omega)
          have d2 : decide (M < gi xs k) = false := decide_eq_false (by omega)
          rw [if_neg (by omega)] at e1
          rw [if_neg (by omega)] at e2
          (try (repeat (first | simp (maxSteps := 40000000) (disch := omega) only [go_sem, ↓reduceIte, d1, d2] | with_reducible refine vIf_t ?_ | with_reducible refine vIf_f ?_)))
          refine againF (k + 1) (by omega) (by omega) ?_
          rw [e1, e2]
          (first | (refine leF_s ?_; ((repeat (first | simp (maxSteps := 40000000) (disch := omega) only [go_sem, ↓reduceIte] | with_reducible refine vIf_t ?_ | with_reducible refine vIf_f ?_)); all_goals (try simp); all_goals (try omega)); done) | (refine leF_p ?_; ((repeat (first | simp (maxSteps := 40000000) (disch := omega) only [go_sem, ↓reduceIte] | with_reducible refine vIf_t ?_ | with_reducible refine vIf_f ?_)); all_goals (try simp); all_goals (try omega)); done))
        · have d1 : decide (gi xs k < M) = false := decide_eq_false (by omega)
          have d2 := decide_eq_true c
          rw [if_pos c] at e1
          rw [if_neg (by omega)] at e2
          (try (repeat (first | simp (maxSteps := 40000000) (disch := omega) only [go_sem, ↓reduceIte, d1, d2] | with_reducible refine vIf_t ?_ | with_reducible refine vIf_f ?_)))
          refine againF (k + 1) (by omega) (by omega) ?_
          rw [e1, e2]
          (first | (refine leF_s ?_; ((repeat (first | simp (maxSteps := 40000000) (disch := omega) only [go_sem, ↓reduceIte] | with_reducible refine vIf_t ?_ | with_reducible refine vIf_f ?_)); all_goals (try simp); all_goals (try omega)); done) | (refine leF_p ?_; ((repeat (first | simp (maxSteps := 40000000) (disch := omega) only [go_sem, ↓reduceIte] | with_reducible refine vIf_t ?_ | with_reducible refine vIf_f ?_)); all_goals (try simp); all_goals (try omega)); done))
      · rw [List.take_of_length_le (show xs.length ≤ k by omega)]
        generalize xs.countP (fun x => decide (M < x)) = A at *
        generalize xs.countP (fun x => decide (x < M)) = L at *
        have c1 : decide ((xs.length : Int) ≤ 2 * L) = false := decide_eq_false (by omega)
        have c2 : decide ((xs.length : Int) < 2 * A) = false := decide_eq_false (by omega)
        have b1 : -9223372036854775808 ≤ mn * xs.length ∧ mn * xs.length ≤ 9223372036854775807 := by
          have := mulbV fn (show (0 : Int) ≤ xs.length ∧ (xs.length : Int) ≤ 60 by omega) (by omega)
          omega
        have b2 : (wsum xs * md != wsum xs * md) = false := by simp
        (repeat (first | simp (maxSteps := 40000000) (disch := omega) only [go_sem, ↓reduceIte, c1, c2] | with_reducible refine vIf_t ?_ | with_reducible refine vIf_f ?_))
        (refine vDraw_sch 23 [(0, false), (1, false), (2, false), (3, false), (4, false), (5, false), (6, false), (7, false), (8, false), (9, false), (10, false), (11, false), (12, false), (13, false), (14, false), (15, false), (16, false), (17, false), (18, false), (20, false), (21, false), (19, false), (22, false)] mixed (by kernel_rfl) ?_; simp only [List.cons_append, List.nil_append, List.map_cons, List.map_nil, nthO_zero, nthO_succ, List.drop_succ_cons, List.drop_zero, List.drop_nil]; (repeat (first | simp (maxSteps := 40000000) (disch := omega) only [go_sem, ↓reduceIte] | with_reducible refine vIf_t ?_ | with_reducible refine vIf_f ?_)))
        (try (repeat (first | simp (maxSteps := 40000000) (disch := omega) only [go_sem, ↓reduceIte, c1, c2] | with_reducible refine vIf_t ?_ | with_reducible refine vIf_f ?_)))
        (refine vsCallX_of ?_; (try (repeat (first | simp (maxSteps := 40000000) (disch := omega) only [go_sem, ↓reduceIte] | with_reducible refine vIf_t ?_ | with_reducible refine vIf_f ?_))); refine vCall_eq (hsum) (by simp (disch := omega) only [go_sem]) rfl (by first | exact Or.inl rfl | exact Or.inr ⟨rfl, rfl⟩ | (apply Or.inr; simp only [go_sem])) ?_; (try (repeat (first | simp (maxSteps := 40000000) (disch := omega) only [go_sem, ↓reduceIte] | with_reducible refine vIf_t ?_ | with_reducible refine vIf_f ?_))))
        (try (repeat (first | simp (maxSteps := 40000000) (disch := omega) only [go_sem, ↓reduceIte, fe, b2] | with_reducible refine vIf_t ?_ | with_reducible refine vIf_f ?_)))
        refine vcLoop_invF (fun k : Nat => k ≤ W.length) (fun k => ⟨295, 0, [(40, I k), (4, I m), (11, I M), (7, .sl W.length (ints W)), (3, .sl xs.length (ints xs))], []⟩) (fun k => W.length - k) 0 (by omega) (by (first | (refine leF_s ?_; ((repeat (first | simp (maxSteps := 40000000) (disch := omega) only [go_sem, ↓reduceIte] | with_reducible refine vIf_t ?_ | with_reducible refine vIf_f ?_)); all_goals (try simp); all_goals (try omega)); done) | (refine leF_p ?_; ((repeat (first | simp (maxSteps := 40000000) (disch := omega) only [go_sem, ↓reduceIte] | with_reducible refine vIf_t ?_ | with_reducible refine vIf_f ?_)); all_goals (try simp); all_goals (try omega)); done))) common.out
    · have b3 : (k3 == 0) = false := by simpa using h3
      (repeat (first | simp (maxSteps := 40000000) (disch := omega) only [go_sem, ↓reduceIte, b3] | with_reducible refine vIf_t ?_ | with_reducible refine vIf_f ?_))
      refine vcLoop_invF (fun k : Nat => k ≤ W.length) (fun k => ⟨295, 0, [(40, I k), (4, I m), (11, I M), (7, .sl W.length (ints W)), (3, .sl xs.length (ints xs))], []⟩) (fun k => W.length - k) 0 (by omega) (by (first | (refine leF_s ?_; ((repeat (first | simp (maxSteps := 40000000) (disch := omega) only [go_sem, ↓reduceIte] | with_reducible refine vIf_t ?_ | with_reducible refine vIf_f ?_)); all_goals (try simp); all_goals (try omega)); done) | (refine leF_p ?_; ((repeat (first | simp (maxSteps := 40000000) (disch := omega) only [go_sem, ↓reduceIte] | with_reducible refine vIf_t ?_ | with_reducible refine vIf_f ?_)); all_goals (try simp); all_goals (try omega)); done))) common.out
  intro k hk
  (repeat (first | simp (maxSteps := 40000000) (disch := omega) only [go_sem, ↓reduceIte] | with_reducible refine vIf_t ?_ | with_reducible refine vIf_f ?_))
  refine vIf_dec (fun h => ?_) (fun h => ?_)
  · have hkl : k < W.length := by omega
    obtain ⟨w1, w2, w3⟩ := F1 k hkl
    (repeat (first | simp (maxSteps := 40000000) (disch := omega) only [go_sem, ↓reduceIte] | with_reducible refine vIf_t ?_ | with_reducible refine vIf_f ?_))
    refine againF (k + 1) (by omega) (by omega) (by (first | (refine leF_s ?_; ((repeat (first | simp (maxSteps := 40000000) (disch := omega) only [go_sem, ↓reduceIte] | with_reducible refine vIf_t ?_ | with_reducible refine vIf_f ?_)); all_goals (try simp); all_goals (try omega)); done) | (refine leF_p ?_; ((repeat (first | simp (maxSteps := 40000000) (disch := omega) only [go_sem, ↓reduceIte] | with_reducible refine vIf_t ?_ | with_reducible refine vIf_f ?_)); all_goals (try simp); all_goals (try omega)); done)))
  · (repeat (first | simp (maxSteps := 40000000) (disch := omega) only [go_sem, ↓reduceIte] | with_reducible refine vIf_t ?_ | with_reducible refine vIf_f ?_))
    (refine retK_of ?_; (repeat (first | simp (maxSteps := 40000000) (disch := omega) only [go_sem, ↓reduceIte] | with_reducible refine vIf_t ?_ | with_reducible refine vIf_f ?_)))
end Go.Proofs.YtjgjnedenapemaaGreatDoor

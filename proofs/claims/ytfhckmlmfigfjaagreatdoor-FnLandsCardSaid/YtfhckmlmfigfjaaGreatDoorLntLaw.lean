/- the law of lands -/
import Derived.Test.YtfhckmlmfigfjaaGreatDoorLntA
import Derived.Test.YtfhckmlmfigfjaaGreatDoorF6
set_option linter.unusedVariables false
set_option linter.unusedSimpArgs false
namespace Go.Proofs.YtfhckmlmfigfjaaGreatDoor
-- steps 40000000
open Go.AG Go.Lib

attribute [local go_sem] beq_self_eq_true bne_self_eq_false Bool.not_true Bool.not_false
theorem vsCallX_keep {P : Program} {s s1 : AState} {fo : Operand} {args : List Operand} {d : Option Nat} {R : List Nat} {K : AState → Prop} (ks : List Nat) (hs : s.keep ks = s1) (h : vsCallX P s1 fo args d R K) : vsCallX P s fo args d R K := by
  obtain ⟨s2, h1, h2⟩ := h
  subst hs
  exact ⟨s2, .keep ks h1, h2⟩
structure BoxLn (G : Prop) : Prop where
  out : G
theorem joinLn {G H : Prop} (h : BoxLn G → H) (g : G) : H := h ⟨g⟩
theorem volBl_ok (l : Ld) (x : Int) (hk : okL l = true) (hx : -2000 ≤ x ∧ x ≤ 2000) : ACalls Tryz.prog 55 [.agg (lC l), I x] [] (fun r o => r = .tup [I (llV l x), I 0] ∧ o = []) := by
  refine ACalls.of_vc Tryz.func55 rfl (by decide) 17 rfl [.tmp 4, .tmp 5] rfl (by simp) ?_
  have F := okL_F hk
  have hn := F.n
  have h1 := validL_ok l (by omega)
  have h2 := lv_ok x
  have h3 := lvol_ok l x F hx
  rw [hk] at h1
  rw [decide_eq_true hx] at h2
  unfold lC at h1 h3 ⊢
  (repeat (first | simp (maxSteps := 40000000) (disch := omega) only [go_sem, ↓reduceIte] | with_reducible refine vIf_t ?_ | with_reducible refine vIf_f ?_))
  (refine vCallX_of ?_; (repeat (first | simp (maxSteps := 40000000) (disch := omega) only [go_sem, ↓reduceIte] | with_reducible refine vIf_t ?_ | with_reducible refine vIf_f ?_)); refine vCall_eq (h1) (by simp (disch := omega) only [go_sem]) rfl (by first | exact Or.inl rfl | exact Or.inr ⟨rfl, rfl⟩ | (apply Or.inr; simp only [go_sem])) ?_; (repeat (first | simp (maxSteps := 40000000) (disch := omega) only [go_sem, ↓reduceIte] | with_reducible refine vIf_t ?_ | with_reducible refine vIf_f ?_)))
  (refine vCallX_of ?_; (repeat (first | simp (maxSteps := 40000000) (disch := omega) only [go_sem, ↓reduceIte] | with_reducible refine vIf_t ?_ | with_reducible refine vIf_f ?_)); refine vCall_eq (h2) (by simp (disch := omega) only [go_sem]) rfl (by first | exact Or.inl rfl | exact Or.inr ⟨rfl, rfl⟩ | (apply Or.inr; simp only [go_sem])) ?_; (repeat (first | simp (maxSteps := 40000000) (disch := omega) only [go_sem, ↓reduceIte] | with_reducible refine vIf_t ?_ | with_reducible refine vIf_f ?_)))
  (refine vCallX_of ?_; (repeat (first | simp (maxSteps := 40000000) (disch := omega) only [go_sem, ↓reduceIte] | with_reducible refine vIf_t ?_ | with_reducible refine vIf_f ?_)); refine vCall_eq (h3) (by simp (disch := omega) only [go_sem]) rfl (by first | exact Or.inl rfl | exact Or.inr ⟨rfl, rfl⟩ | (apply Or.inr; simp only [go_sem])) ?_; (repeat (first | simp (maxSteps := 40000000) (disch := omega) only [go_sem, ↓reduceIte] | with_reducible refine vIf_t ?_ | with_reducible refine vIf_f ?_)))
  (refine retK_of ?_; (repeat (first | simp (maxSteps := 40000000) (disch := omega) only [go_sem, ↓reduceIte] | with_reducible refine vIf_t ?_ | with_reducible refine vIf_f ?_)))
  try rfl
theorem validLS_ok (l : Ld) (hl : l.hs.length ≤ 10000000) : ACalls Tryz.prog 54 [.agg (lC l)] [] (fun r o => r = B (okL l) ∧ o = []) := by
  refine ACalls.of_vc Tryz.func54 rfl (by decide) 4 rfl [.tmp 2] rfl (by simp) ?_
  have h := l03Ok_ok l hl
  unfold lC at h ⊢
  (repeat (first | simp (maxSteps := 40000000) (disch := omega) only [go_sem, ↓reduceIte] | with_reducible refine vIf_t ?_ | with_reducible refine vIf_f ?_))
  (refine vCallX_fz 0 _ rfl (by (repeat (first | simp (maxSteps := 40000000) (disch := omega) only [go_sem, ↓reduceIte] | with_reducible refine vIf_t ?_ | with_reducible refine vIf_f ?_))) ?_; (repeat (first | simp (maxSteps := 40000000) (disch := omega) only [go_sem, ↓reduceIte] | with_reducible refine vIf_t ?_ | with_reducible refine vIf_f ?_)))
  (refine vCallX_of ?_; (repeat (first | simp (maxSteps := 40000000) (disch := omega) only [go_sem, ↓reduceIte] | with_reducible refine vIf_t ?_ | with_reducible refine vIf_f ?_)); refine vCall_eq (h) (by simp (disch := omega) only [go_sem]) rfl (by first | exact Or.inl rfl | exact Or.inr ⟨rfl, rfl⟩ | (apply Or.inr; simp only [go_sem])) ?_; (repeat (first | simp (maxSteps := 40000000) (disch := omega) only [go_sem, ↓reduceIte] | with_reducible refine vIf_t ?_ | with_reducible refine vIf_f ?_)))
  (refine retK_of ?_; (repeat (first | simp (maxSteps := 40000000) (disch := omega) only [go_sem, ↓reduceIte] | with_reducible refine vIf_t ?_ | with_reducible refine vIf_f ?_)))
theorem shL_facts {l : Ld} {r q h : Int} (e : shC l r q h = 0) : okL (shL l r q h) = true ∧ hcC (shL l r q h) r q = 0 ∧ haN (shL l r q h) r q = h := by
  obtain ⟨e1, e2⟩ := shC_0 e
  obtain ⟨k1, k2⟩ := hcC_0 e1
  obtain ⟨b1, b2, b3⟩ := inL_bd k1 k2
  have es : shL l r q h = ⟨l.rows, l.cols, l.hs.set (r * l.cols + q).toNat h⟩ := if_pos e
  have Q := (okL_iff l).1 k1
  have hk : okL (shL l r q h) = true := by
    rw [es]
    refine (okL_iff _).2 ⟨Q.r, Q.c, by simp [Q.n], fun x hx => ?_⟩
    rcases List.mem_or_eq_of_mem_set hx with hx | hx
    · exact Q.h x hx
    · rw [hx]; exact e2
  have hc : hcC (shL l r q h) r q = 0 := by
    unfold hcC
    rw [hk, if_pos rfl, if_pos (by rw [es]; exact k2)]
  refine ⟨hk, hc, ?_⟩
  unfold haN
  rw [if_pos hc, es]
  exact gi_set_same _ _ _ b3
theorem shL_len (l : Ld) (r q h : Int) (hl : l.hs.length ≤ 145) : (shL l r q h).hs.length ≤ 145 := by
  unfold shL
  split <;> simp <;> omega
theorem lcV_len (l : Ld) : (lcV l).length ≤ l.hs.length := by
  unfold lcV
  split
  · exact ixs_len _ _
  · simp
theorem rlL_len (t : List UInt8) : (rlL (rlO t)).hs.length ≤ 144 := by
  cases h : rlO t with
  | none => simp [rlL]
  | some l => exact (okL_F ((rlO_iff t l).1 h).1).n
theorem ldT_ne {l : Ld} (Q : LdQ l) : ldT l ≠ [] := fun e => by
  have h := ldT_count l
  rw [e] at h
  have := Q.r
  simp at h
  omega
theorem txl_ne {l : List UInt8} : (!((tx l).toList == (tx []).toList)) = !l.isEmpty := by
  cases l with
  | nil => simp
  | cons a r => rw [tx_bq (by simp)]; rfl
theorem backL (t : Ld) : (!((tx (if okL t = true then ldT t else [])).toList == (tx []).toList)) = (rlO (if okL t = true then ldT t else [])).isSome ∧ ((rlO (if okL t = true then ldT t else [])).isSome = true → rlL (rlO (if okL t = true then ldT t else [])) = t) := by
  cases hk : okL t with
  | true =>
    have e : rlO (ldT t) = some t := (rlO_iff _ _).2 ⟨hk, rfl⟩
    rw [if_pos rfl, e, txl_ne]
    refine ⟨?_, fun _ => rfl⟩
    cases h : ldT t with
    | nil => exact absurd h (ldT_ne ((okL_iff t).1 hk))
    | cons a r => rfl
  | false =>
    have e : rlO [] = none := rlO_none fun l Q h => ldT_ne Q h
    rw [if_neg (by simp), e, txl_ne]
    exact ⟨rfl, fun h => by cases h⟩
set_option maxRecDepth 100000 in
set_option maxHeartbeats 64000000 in
theorem landsLaw_ok (code : List Int) (hb : bOk code) (hl : code.length ≤ 9223372036854775807) : ACalls Tryz.prog 4 [bS code] [] (fun r o => r = B true ∧ o = []) := by
  refine ACalls.of_vc Tryz.func4 rfl (by decide) 285 rfl [.tmp 2] rfl (by simp) ?_
  have hbig := f6big_ok code hl
  unfold bS at hbig ⊢
  (repeat (first | simp (maxSteps := 40000000) (disch := omega) only [go_sem, ↓reduceIte] | with_reducible refine vIf_t ?_ | with_reducible refine vIf_f ?_))
  (refine vCallX_of ?_; (repeat (first | simp (maxSteps := 40000000) (disch := omega) only [go_sem, ↓reduceIte] | with_reducible refine vIf_t ?_ | with_reducible refine vIf_f ?_)); refine vCall_eq (hbig) (by simp (disch := omega) only [go_sem]) rfl (by first | exact Or.inl rfl | exact Or.inr ⟨rfl, rfl⟩ | (apply Or.inr; simp only [go_sem])) ?_; (repeat (first | simp (maxSteps := 40000000) (disch := omega) only [go_sem, ↓reduceIte] | with_reducible refine vIf_t ?_ | with_reducible refine vIf_f ?_)))
  refine vIf_dec (fun h => ?_) (fun h => ?_)
  · (repeat (first | simp (maxSteps := 40000000) (disch := omega) only [go_sem, ↓reduceIte] | with_reducible refine vIf_t ?_ | with_reducible refine vIf_f ?_))
    (refine retK_of ?_; (repeat (first | simp (maxSteps := 40000000) (disch := omega) only [go_sem, ↓reduceIte] | with_reducible refine vIf_t ?_ | with_reducible refine vIf_f ?_)))
  have g : SrOk code := ⟨hb, by omega⟩
  have hd1 := drawSH_e g
  have hd2 := drawHA_e g
  have hd3 := drawLF_e g
  have hd4 := drawLC_e g
  have hd5 := drawLT_e g
  have hd6 := drawRL6_e g
  have hd7 := drawSL_e g
  unfold lC at hd1 hd2 hd3 hd4 hd5 hd7
  unfold bS at hd1 hd2 hd3 hd4 hd5 hd6 hd7
  (repeat (first | simp (maxSteps := 40000000) (disch := omega) only [go_sem, ↓reduceIte] | with_reducible refine vIf_t ?_ | with_reducible refine vIf_f ?_))
  (refine vCallX_of ?_; (repeat (first | simp (maxSteps := 40000000) (disch := omega) only [go_sem, ↓reduceIte] | with_reducible refine vIf_t ?_ | with_reducible refine vIf_f ?_)); refine vCall_ex (hd1) (by simp (disch := omega) only [go_sem]) rfl ?_); rintro _ _ ⟨l, r, q, h, rfl, rfl, n1⟩; (refine ⟨(by first | exact Or.inl rfl | exact Or.inr ⟨rfl, rfl⟩ | (apply Or.inr; simp only [go_sem])), ?_⟩; (repeat (first | simp (maxSteps := 40000000) (disch := omega) only [go_sem, ↓reduceIte] | with_reducible refine vIf_t ?_ | with_reducible refine vIf_f ?_)))
  have p1 := shQ_fz (setH_ok l r q h (by omega))
  have p2 := shQ_fz (setHS_ok l r q h (by omega))
  have q16 := validL_ok l (by omega)
  have q17 := validLS_ok l (by omega)
  have F1 := @shL_facts l r q h
  have hxl := shL_len l r q h n1
  have p3 := sameLdS_ok (shL l r q h) (shL l r q h) (by omega) (by omega)
  have p4 := validL_ok (shL l r q h) (by omega)
  have p5 := heightAt_ok (shL l r q h) r q (by omega)
  rw [decide_eq_true rfl] at p3
  generalize shL l r q h = x at *
  generalize shC l r q h = k1 at *
  unfold lC at p1 p2 p3 p4 p5 q16 q17
  (refine vCallX_keep [6, 5, 4, 3, 0, 56, 57, 58, 59] rfl ?_; (repeat (first | simp (maxSteps := 40000000) (disch := omega) only [go_sem, ↓reduceIte] | with_reducible refine vIf_t ?_ | with_reducible refine vIf_f ?_)))
  (refine vCallX_of ?_; (repeat (first | simp (maxSteps := 40000000) (disch := omega) only [go_sem, ↓reduceIte] | with_reducible refine vIf_t ?_ | with_reducible refine vIf_f ?_)); refine vCall_eq (p1) (by simp (disch := omega) only [go_sem]) rfl (by first | exact Or.inl rfl | exact Or.inr ⟨rfl, rfl⟩ | (apply Or.inr; simp only [go_sem])) ?_; (repeat (first | simp (maxSteps := 40000000) (disch := omega) only [go_sem, ↓reduceIte] | with_reducible refine vIf_t ?_ | with_reducible refine vIf_f ?_)))
  (refine vCallX_keep [7, 6, 5, 4, 8, 3, 0, 64, 65, 66, 67] rfl ?_; (repeat (first | simp (maxSteps := 40000000) (disch := omega) only [go_sem, ↓reduceIte] | with_reducible refine vIf_t ?_ | with_reducible refine vIf_f ?_)))
  (refine vCallX_of ?_; (repeat (first | simp (maxSteps := 40000000) (disch := omega) only [go_sem, ↓reduceIte] | with_reducible refine vIf_t ?_ | with_reducible refine vIf_f ?_)); refine vCall_eq (p2) (by simp (disch := omega) only [go_sem]) rfl (by first | exact Or.inl rfl | exact Or.inr ⟨rfl, rfl⟩ | (apply Or.inr; simp only [go_sem])) ?_; (repeat (first | simp (maxSteps := 40000000) (disch := omega) only [go_sem, ↓reduceIte] | with_reducible refine vIf_t ?_ | with_reducible refine vIf_f ?_)))
  (refine vCallX_keep [7, 6, 5, 4, 8, 3, 9, 10, 0, 72] rfl ?_; (repeat (first | simp (maxSteps := 40000000) (disch := omega) only [go_sem, ↓reduceIte] | with_reducible refine vIf_t ?_ | with_reducible refine vIf_f ?_)))
  (refine vCallX_of ?_; (repeat (first | simp (maxSteps := 40000000) (disch := omega) only [go_sem, ↓reduceIte] | with_reducible refine vIf_t ?_ | with_reducible refine vIf_f ?_)); refine vCall_ex (hd2) (by simp (disch := omega) only [go_sem]) rfl ?_); rintro _ _ ⟨a, i, k, rfl, rfl, n2⟩; (refine ⟨(by first | exact Or.inl rfl | exact Or.inr ⟨rfl, rfl⟩ | (apply Or.inr; simp only [go_sem])), ?_⟩; (repeat (first | simp (maxSteps := 40000000) (disch := omega) only [go_sem, ↓reduceIte] | with_reducible refine vIf_t ?_ | with_reducible refine vIf_f ?_)))
  have p6 := heightAt_ok a i k (by omega)
  have p7 := heightAtS_ok a i k (by omega)
  generalize haN a i k = v1 at *
  generalize hcC a i k = k2 at p6 p7
  unfold lC at p6 p7
  (refine vCallX_keep [7, 6, 5, 4, 8, 3, 9, 10, 0, 13, 12, 11, 78, 79, 80] rfl ?_; (repeat (first | simp (maxSteps := 40000000) (disch := omega) only [go_sem, ↓reduceIte] | with_reducible refine vIf_t ?_ | with_reducible refine vIf_f ?_)))
  (refine vCallX_of ?_; (repeat (first | simp (maxSteps := 40000000) (disch := omega) only [go_sem, ↓reduceIte] | with_reducible refine vIf_t ?_ | with_reducible refine vIf_f ?_)); refine vCall_eq (p6) (by simp (disch := omega) only [go_sem]) rfl (by first | exact Or.inl rfl | exact Or.inr ⟨rfl, rfl⟩ | (apply Or.inr; simp only [go_sem])) ?_; (repeat (first | simp (maxSteps := 40000000) (disch := omega) only [go_sem, ↓reduceIte] | with_reducible refine vIf_t ?_ | with_reducible refine vIf_f ?_)))
  (refine vCallX_keep [7, 6, 5, 4, 8, 3, 14, 15, 9, 10, 0, 13, 12, 11, 85, 86, 87] rfl ?_; (repeat (first | simp (maxSteps := 40000000) (disch := omega) only [go_sem, ↓reduceIte] | with_reducible refine vIf_t ?_ | with_reducible refine vIf_f ?_)))
  (refine vCallX_of ?_; (repeat (first | simp (maxSteps := 40000000) (disch := omega) only [go_sem, ↓reduceIte] | with_reducible refine vIf_t ?_ | with_reducible refine vIf_f ?_)); refine vCall_eq (p7) (by simp (disch := omega) only [go_sem]) rfl (by first | exact Or.inl rfl | exact Or.inr ⟨rfl, rfl⟩ | (apply Or.inr; simp only [go_sem])) ?_; (repeat (first | simp (maxSteps := 40000000) (disch := omega) only [go_sem, ↓reduceIte] | with_reducible refine vIf_t ?_ | with_reducible refine vIf_f ?_)))
  (refine vCallX_keep [7, 6, 5, 4, 8, 3, 16, 14, 17, 15, 9, 10, 0, 92] rfl ?_; (repeat (first | simp (maxSteps := 40000000) (disch := omega) only [go_sem, ↓reduceIte] | with_reducible refine vIf_t ?_ | with_reducible refine vIf_f ?_)))
  (refine vCallX_of ?_; (repeat (first | simp (maxSteps := 40000000) (disch := omega) only [go_sem, ↓reduceIte] | with_reducible refine vIf_t ?_ | with_reducible refine vIf_f ?_)); refine vCall_ex (hd3) (by simp (disch := omega) only [go_sem]) rfl ?_); rintro _ _ ⟨b, vol, rfl, rfl, n3⟩; (refine ⟨(by first | exact Or.inl rfl | exact Or.inr ⟨rfl, rfl⟩ | (apply Or.inr; simp only [go_sem])), ?_⟩; (repeat (first | simp (maxSteps := 40000000) (disch := omega) only [go_sem, ↓reduceIte] | with_reducible refine vIf_t ?_ | with_reducible refine vIf_f ?_)))
  have p8 := levelFor_ok b vol (by omega)
  have p9 := levelForS_ok b vol (by omega)
  unfold lC at p8 p9
  (refine vCallX_keep [7, 6, 5, 4, 8, 19, 18, 3, 16, 14, 17, 15, 9, 10, 0, 97, 98] rfl ?_; (repeat (first | simp (maxSteps := 40000000) (disch := omega) only [go_sem, ↓reduceIte] | with_reducible refine vIf_t ?_ | with_reducible refine vIf_f ?_)))
  (refine vCallX_of ?_; (repeat (first | simp (maxSteps := 40000000) (disch := omega) only [go_sem, ↓reduceIte] | with_reducible refine vIf_t ?_ | with_reducible refine vIf_f ?_)); refine vCall_ex (p8) (by simp (disch := omega) only [go_sem]) rfl ?_); rintro _ _ ⟨lev, k3, R1, rfl, rfl⟩; (refine ⟨(by first | exact Or.inl rfl | exact Or.inr ⟨rfl, rfl⟩ | (apply Or.inr; simp only [go_sem])), ?_⟩; (repeat (first | simp (maxSteps := 40000000) (disch := omega) only [go_sem, ↓reduceIte] | with_reducible refine vIf_t ?_ | with_reducible refine vIf_f ?_)))
  (refine vCallX_keep [7, 6, 5, 4, 8, 19, 20, 18, 21, 3, 16, 14, 17, 15, 9, 10, 0, 103, 104] rfl ?_; (repeat (first | simp (maxSteps := 40000000) (disch := omega) only [go_sem, ↓reduceIte] | with_reducible refine vIf_t ?_ | with_reducible refine vIf_f ?_)))
  (refine vCallX_of ?_; (repeat (first | simp (maxSteps := 40000000) (disch := omega) only [go_sem, ↓reduceIte] | with_reducible refine vIf_t ?_ | with_reducible refine vIf_f ?_)); refine vCall_ex (p9) (by simp (disch := omega) only [go_sem]) rfl ?_); rintro _ _ ⟨lev2, k32, R2, rfl, rfl⟩; (refine ⟨(by first | exact Or.inl rfl | exact Or.inr ⟨rfl, rfl⟩ | (apply Or.inr; simp only [go_sem])), ?_⟩; (repeat (first | simp (maxSteps := 40000000) (disch := omega) only [go_sem, ↓reduceIte] | with_reducible refine vIf_t ?_ | with_reducible refine vIf_f ?_)))
  obtain ⟨e1, e2⟩ := R1.uniq R2
  subst e1 e2
  clear R2
  (refine vCallX_keep [7, 6, 5, 4, 8, 19, 20, 18, 21, 3, 22, 23, 16, 14, 17, 15, 9, 10, 0, 108] rfl ?_; (repeat (first | simp (maxSteps := 40000000) (disch := omega) only [go_sem, ↓reduceIte] | with_reducible refine vIf_t ?_ | with_reducible refine vIf_f ?_)))
  (refine vCallX_of ?_; (repeat (first | simp (maxSteps := 40000000) (disch := omega) only [go_sem, ↓reduceIte] | with_reducible refine vIf_t ?_ | with_reducible refine vIf_f ?_)); refine vCall_ex (hd4) (by simp (disch := omega) only [go_sem]) rfl ?_); rintro _ _ ⟨c, rfl, rfl, n4⟩; (refine ⟨(by first | exact Or.inl rfl | exact Or.inr ⟨rfl, rfl⟩ | (apply Or.inr; simp only [go_sem])), ?_⟩; (repeat (first | simp (maxSteps := 40000000) (disch := omega) only [go_sem, ↓reduceIte] | with_reducible refine vIf_t ?_ | with_reducible refine vIf_f ?_)))
  have p10 := RowR.fz (lowestC_ok c (by omega))
  have p11 := RowR.fz (lowestCS_ok c (by omega))
  have hcl := lcV_len c
  generalize lcV c = C at *
  generalize lcC c = k4 at *
  unfold lC at p10 p11
  (refine vCallX_keep [7, 6, 5, 4, 8, 19, 20, 18, 21, 3, 22, 23, 16, 14, 17, 15, 9, 10, 0, 24, 111] rfl ?_; (repeat (first | simp (maxSteps := 40000000) (disch := omega) only [go_sem, ↓reduceIte] | with_reducible refine vIf_t ?_ | with_reducible refine vIf_f ?_)))
  (refine vCallX_of ?_; (repeat (first | simp (maxSteps := 40000000) (disch := omega) only [go_sem, ↓reduceIte] | with_reducible refine vIf_t ?_ | with_reducible refine vIf_f ?_)); refine vCall_eq (p10) (by simp (disch := omega) only [go_sem]) rfl (by first | exact Or.inl rfl | exact Or.inr ⟨rfl, rfl⟩ | (apply Or.inr; simp only [go_sem])) ?_; (repeat (first | simp (maxSteps := 40000000) (disch := omega) only [go_sem, ↓reduceIte] | with_reducible refine vIf_t ?_ | with_reducible refine vIf_f ?_)))
  (refine vCallX_keep [7, 6, 5, 4, 8, 19, 20, 18, 21, 3, 25, 26, 22, 23, 16, 14, 17, 15, 9, 10, 0, 24, 116] rfl ?_; (repeat (first | simp (maxSteps := 40000000) (disch := omega) only [go_sem, ↓reduceIte] | with_reducible refine vIf_t ?_ | with_reducible refine vIf_f ?_)))
  (refine vCallX_of ?_; (repeat (first | simp (maxSteps := 40000000) (disch := omega) only [go_sem, ↓reduceIte] | with_reducible refine vIf_t ?_ | with_reducible refine vIf_f ?_)); refine vCall_eq (p11) (by simp (disch := omega) only [go_sem]) rfl (by first | exact Or.inl rfl | exact Or.inr ⟨rfl, rfl⟩ | (apply Or.inr; simp only [go_sem])) ?_; (repeat (first | simp (maxSteps := 40000000) (disch := omega) only [go_sem, ↓reduceIte] | with_reducible refine vIf_t ?_ | with_reducible refine vIf_f ?_)))
  (refine vCallX_keep [7, 6, 5, 4, 8, 19, 20, 18, 21, 3, 27, 25, 28, 26, 22, 23, 16, 14, 17, 15, 9, 10, 0, 120] rfl ?_; (repeat (first | simp (maxSteps := 40000000) (disch := omega) only [go_sem, ↓reduceIte] | with_reducible refine vIf_t ?_ | with_reducible refine vIf_f ?_)))
  (refine vCallX_of ?_; (repeat (first | simp (maxSteps := 40000000) (disch := omega) only [go_sem, ↓reduceIte] | with_reducible refine vIf_t ?_ | with_reducible refine vIf_f ?_)); refine vCall_ex (hd5) (by simp (disch := omega) only [go_sem]) rfl ?_); rintro _ _ ⟨t, rfl, rfl, n5⟩; (refine ⟨(by first | exact Or.inl rfl | exact Or.inr ⟨rfl, rfl⟩ | (apply Or.inr; simp only [go_sem])), ?_⟩; (repeat (first | simp (maxSteps := 40000000) (disch := omega) only [go_sem, ↓reduceIte] | with_reducible refine vIf_t ?_ | with_reducible refine vIf_f ?_)))
  have p12 := landText_ok t (by omega)
  have p13 := landTextS_ok t (by omega)
  obtain ⟨hk1, hk2⟩ := backL t
  obtain ⟨T, hT⟩ : ∃ T, T = if okL t = true then ldT t else [] := ⟨_, rfl⟩
  rw [← hT] at p12 p13 hk1 hk2
  have hTa : Asc T := by
    rw [hT]; split
    · exact ldT_asc t
    · exact fun c hc => by simp at hc
  have hTl : T.length ≤ 10000 := by
    rw [hT]; split
    · rename_i hk
      have Q := (okL_iff t).1 hk
      have : (ldT t).length ≤ 4000 := ldT_len Q.nok (by have := Q.r; omega) (by have := Q.c; omega)
      omega
    · simp
  have p14 := RlQ.fz (readLand_ok T hTa hTl)
  have hbl := rlL_len T
  generalize rlL (rlO T) = bk at *
  generalize (rlO T).isSome = ok at *
  clear hT
  unfold lC at p12 p13 p14
  (refine vCallX_keep [7, 6, 5, 4, 8, 19, 20, 18, 21, 3, 29, 27, 25, 28, 26, 22, 23, 16, 14, 17, 15, 9, 10, 0, 122] rfl ?_; (repeat (first | simp (maxSteps := 40000000) (disch := omega) only [go_sem, ↓reduceIte] | with_reducible refine vIf_t ?_ | with_reducible refine vIf_f ?_)))
  (refine vCallX_of ?_; (repeat (first | simp (maxSteps := 40000000) (disch := omega) only [go_sem, ↓reduceIte] | with_reducible refine vIf_t ?_ | with_reducible refine vIf_f ?_)); refine vCall_eq (p12) (by simp (disch := omega) only [go_sem]) rfl (by first | exact Or.inl rfl | exact Or.inr ⟨rfl, rfl⟩ | (apply Or.inr; simp only [go_sem])) ?_; (repeat (first | simp (maxSteps := 40000000) (disch := omega) only [go_sem, ↓reduceIte] | with_reducible refine vIf_t ?_ | with_reducible refine vIf_f ?_)))
  (refine vCallX_keep [7, 6, 5, 4, 8, 19, 20, 18, 21, 3, 29, 30, 27, 25, 28, 26, 22, 23, 16, 14, 17, 15, 9, 10, 0, 125] rfl ?_; (repeat (first | simp (maxSteps := 40000000) (disch := omega) only [go_sem, ↓reduceIte] | with_reducible refine vIf_t ?_ | with_reducible refine vIf_f ?_)))
  (refine vCallX_of ?_; (repeat (first | simp (maxSteps := 40000000) (disch := omega) only [go_sem, ↓reduceIte] | with_reducible refine vIf_t ?_ | with_reducible refine vIf_f ?_)); refine vCall_eq (p14) (by simp (disch := omega) only [go_sem]) rfl (by first | exact Or.inl rfl | exact Or.inr ⟨rfl, rfl⟩ | (apply Or.inr; simp only [go_sem])) ?_; (repeat (first | simp (maxSteps := 40000000) (disch := omega) only [go_sem, ↓reduceIte] | with_reducible refine vIf_t ?_ | with_reducible refine vIf_f ?_)))
  (refine vCallX_keep [7, 6, 5, 4, 8, 19, 20, 18, 21, 3, 29, 31, 32, 30, 27, 25, 28, 26, 22, 23, 16, 14, 17, 15, 9, 10, 0, 129] rfl ?_; (repeat (first | simp (maxSteps := 40000000) (disch := omega) only [go_sem, ↓reduceIte] | with_reducible refine vIf_t ?_ | with_reducible refine vIf_f ?_)))
  (refine vCallX_of ?_; (repeat (first | simp (maxSteps := 40000000) (disch := omega) only [go_sem, ↓reduceIte] | with_reducible refine vIf_t ?_ | with_reducible refine vIf_f ?_)); refine vCall_ex (hd6) (by simp (disch := omega) only [go_sem]) rfl ?_); rintro _ _ ⟨s, rfl, rfl, hsa, hsl⟩; (refine ⟨(by first | exact Or.inl rfl | exact Or.inr ⟨rfl, rfl⟩ | (apply Or.inr; simp only [go_sem])), ?_⟩; (repeat (first | simp (maxSteps := 40000000) (disch := omega) only [go_sem, ↓reduceIte] | with_reducible refine vIf_t ?_ | with_reducible refine vIf_f ?_)))
  have p15 := RlQ.fz (readLand_ok s hsa (by omega))
  have p16 := RlQ.fz (readLandS_ok s (by omega))
  have hul := rlL_len s
  generalize rlL (rlO s) = u at *
  generalize (rlO s).isSome = ok2 at *
  have p17 := sameLdS_ok u u (by omega) (by omega)
  rw [decide_eq_true rfl] at p17
  unfold lC at p15 p16 p17
  (refine vCallX_keep [7, 6, 5, 4, 8, 19, 20, 18, 21, 3, 29, 31, 32, 30, 27, 25, 28, 26, 22, 23, 16, 14, 17, 15, 9, 10, 0, 33, 132] rfl ?_; (repeat (first | simp (maxSteps := 40000000) (disch := omega) only [go_sem, ↓reduceIte] | with_reducible refine vIf_t ?_ | with_reducible refine vIf_f ?_)))
  (refine vCallX_of ?_; (repeat (first | simp (maxSteps := 40000000) (disch := omega) only [go_sem, ↓reduceIte] | with_reducible refine vIf_t ?_ | with_reducible refine vIf_f ?_)); refine vCall_eq (p15) (by simp (disch := omega) only [go_sem]) rfl (by first | exact Or.inl rfl | exact Or.inr ⟨rfl, rfl⟩ | (apply Or.inr; simp only [go_sem])) ?_; (repeat (first | simp (maxSteps := 40000000) (disch := omega) only [go_sem, ↓reduceIte] | with_reducible refine vIf_t ?_ | with_reducible refine vIf_f ?_)))
  (refine vCallX_keep [7, 6, 5, 4, 8, 19, 20, 18, 21, 3, 34, 35, 29, 31, 32, 30, 27, 25, 28, 26, 22, 23, 16, 14, 17, 15, 9, 10, 0, 33, 137] rfl ?_; (repeat (first | simp (maxSteps := 40000000) (disch := omega) only [go_sem, ↓reduceIte] | with_reducible refine vIf_t ?_ | with_reducible refine vIf_f ?_)))
  (refine vCallX_of ?_; (repeat (first | simp (maxSteps := 40000000) (disch := omega) only [go_sem, ↓reduceIte] | with_reducible refine vIf_t ?_ | with_reducible refine vIf_f ?_)); refine vCall_eq (p16) (by simp (disch := omega) only [go_sem]) rfl (by first | exact Or.inl rfl | exact Or.inr ⟨rfl, rfl⟩ | (apply Or.inr; simp only [go_sem])) ?_; (repeat (first | simp (maxSteps := 40000000) (disch := omega) only [go_sem, ↓reduceIte] | with_reducible refine vIf_t ?_ | with_reducible refine vIf_f ?_)))
  (refine vCallX_keep [7, 6, 5, 4, 8, 19, 20, 18, 21, 3, 36, 34, 37, 35, 29, 31, 32, 30, 27, 25, 28, 26, 22, 23, 16, 14, 17, 15, 9, 10, 0, 142] rfl ?_; (repeat (first | simp (maxSteps := 40000000) (disch := omega) only [go_sem, ↓reduceIte] | with_reducible refine vIf_t ?_ | with_reducible refine vIf_f ?_)))
  (refine vCallX_of ?_; (repeat (first | simp (maxSteps := 40000000) (disch := omega) only [go_sem, ↓reduceIte] | with_reducible refine vIf_t ?_ | with_reducible refine vIf_f ?_)); refine vCall_ex (hd7) (by simp (disch := omega) only [go_sem]) rfl ?_); rintro _ _ ⟨d, e, rfl, rfl, n6, n7⟩; (refine ⟨(by first | exact Or.inl rfl | exact Or.inr ⟨rfl, rfl⟩ | (apply Or.inr; simp only [go_sem])), ?_⟩; (repeat (first | simp (maxSteps := 40000000) (disch := omega) only [go_sem, ↓reduceIte] | with_reducible refine vIf_t ?_ | with_reducible refine vIf_f ?_)))
  have p18 := sameLdI_ok d e (by omega) (by omega)
  have p19 := sameLdS_ok d e (by omega) (by omega)
  have q1 := f6same_ok C (by omega)
  have p20 := sameLdS_ok bk t (by omega) (by omega)
  unfold lC at p18 p19 p20
  (refine vDraw_sch 85 ([(0, false), (1, false), (2, false), (3, false), (4, false), (5, false), (6, false), (7, false), (8, false), (9, false), (10, false), (11, false), (12, false), (13, false), (14, false), (15, false), (16, false), (17, false), (18, false), (19, false)] ++ [(20, false), (21, false), (22, false), (23, false), (24, false), (25, false), (26, false), (27, false), (28, false), (29, false), (30, false), (31, false), (32, false), (33, false), (34, false), (35, false), (36, false), (37, false), (38, false), (39, false)] ++ [(40, false), (41, false), (42, false), (43, false), (44, false), (45, false), (46, false), (47, false), (48, false), (49, false), (50, false), (51, false), (52, false), (53, false), (54, false), (55, false), (56, false), (57, false), (58, false), (59, false)] ++ [(60, false), (61, false), (62, false), (63, false), (64, false), (65, false), (66, false), (67, false), (68, false), (69, false), (70, false), (71, false), (72, false), (73, false), (74, false), (76, false), (77, false), (75, false), (78, false), (79, false)] ++ [(80, false), (81, false), (82, false), (84, false), (83, false)]) mixed (by kernel_rfl) ?_; simp only [List.cons_append, List.nil_append, List.map_cons, List.map_nil, nthO_zero, nthO_succ, List.drop_succ_cons, List.drop_zero, List.drop_nil]; (repeat (first | simp (maxSteps := 40000000) (disch := omega) only [go_sem, ↓reduceIte] | with_reducible refine vIf_t ?_ | with_reducible refine vIf_f ?_)))
  (refine vsCallX_of ?_; (try (repeat (first | simp (maxSteps := 40000000) (disch := omega) only [go_sem, ↓reduceIte] | with_reducible refine vIf_t ?_ | with_reducible refine vIf_f ?_))); refine vCall_eq (p3) (by simp (disch := omega) only [go_sem]) rfl (by first | exact Or.inl rfl | exact Or.inr ⟨rfl, rfl⟩ | (apply Or.inr; simp only [go_sem])) ?_; (try (repeat (first | simp (maxSteps := 40000000) (disch := omega) only [go_sem, ↓reduceIte] | with_reducible refine vIf_t ?_ | with_reducible refine vIf_f ?_))))
  (refine vsCallX_keep [180, 181, 182, 30, 29, 32, 31, 35, 37, 34, 36, 38, 39, 3, 7, 6, 5, 4, 8, 19, 20, 18, 21] rfl ?_; (try (repeat (first | simp (maxSteps := 40000000) (disch := omega) only [go_sem, ↓reduceIte] | with_reducible refine vIf_t ?_ | with_reducible refine vIf_f ?_))))
  (refine vsCallX_of ?_; (try (repeat (first | simp (maxSteps := 40000000) (disch := omega) only [go_sem, ↓reduceIte] | with_reducible refine vIf_t ?_ | with_reducible refine vIf_f ?_))); refine vCall_eq (q1) (by simp (disch := omega) only [go_sem]) rfl (by first | exact Or.inl rfl | exact Or.inr ⟨rfl, rfl⟩ | (apply Or.inr; simp only [go_sem])) ?_; (try (repeat (first | simp (maxSteps := 40000000) (disch := omega) only [go_sem, ↓reduceIte] | with_reducible refine vIf_t ?_ | with_reducible refine vIf_f ?_))))
  (refine vsCallX_keep [186, 187, 188, 30, 29, 32, 31, 35, 37, 34, 36, 38, 39, 3, 7, 6, 5, 4, 8, 19, 20, 18, 21] rfl ?_; (try (repeat (first | simp (maxSteps := 40000000) (disch := omega) only [go_sem, ↓reduceIte] | with_reducible refine vIf_t ?_ | with_reducible refine vIf_f ?_))))
  (refine vsCallX_of ?_; (try (repeat (first | simp (maxSteps := 40000000) (disch := omega) only [go_sem, ↓reduceIte] | with_reducible refine vIf_t ?_ | with_reducible refine vIf_f ?_))); refine vCall_eq (p13) (by simp (disch := omega) only [go_sem]) rfl (by first | exact Or.inl rfl | exact Or.inr ⟨rfl, rfl⟩ | (apply Or.inr; simp only [go_sem])) ?_; (try (repeat (first | simp (maxSteps := 40000000) (disch := omega) only [go_sem, ↓reduceIte] | with_reducible refine vIf_t ?_ | with_reducible refine vIf_f ?_))))
  have hbt : ok = true → decide (bk = t) = true := fun h => decide_eq_true (hk2 h)
  have hok : ok = true ∨ ok = false := by
    cases h : ok
    · exact .inr rfl
    · exact .inl rfl
  (try (repeat (first | simp (maxSteps := 40000000) (disch := omega) only [go_sem, ↓reduceIte, hk1] | with_reducible refine vIf_t ?_ | with_reducible refine vIf_f ?_)))
  clear hk1 hk2
  apply joinLn
  · intro common
    rcases hok with hok | hok
    · rw [hbt hok] at p20
      (try (repeat (first | simp (maxSteps := 40000000) (disch := omega) only [go_sem, ↓reduceIte, hok] | with_reducible refine vIf_t ?_ | with_reducible refine vIf_f ?_)))
      (refine vsCallX_of ?_; (try (repeat (first | simp (maxSteps := 40000000) (disch := omega) only [go_sem, ↓reduceIte] | with_reducible refine vIf_t ?_ | with_reducible refine vIf_f ?_))); refine vCall_eq (p20) (by simp (disch := omega) only [go_sem]) rfl (by first | exact Or.inl rfl | exact Or.inr ⟨rfl, rfl⟩ | (apply Or.inr; simp only [go_sem])) ?_; (try (repeat (first | simp (maxSteps := 40000000) (disch := omega) only [go_sem, ↓reduceIte] | with_reducible refine vIf_t ?_ | with_reducible refine vIf_f ?_))))
      (try (repeat (first | simp (maxSteps := 40000000) (disch := omega) only [go_sem, ↓reduceIte, hok] | with_reducible refine vIf_t ?_ | with_reducible refine vIf_f ?_)))
      (refine vsCallX_keep [212, 213, 214, 38, 39, 3, 7, 6, 5, 4, 8, 19, 20, 18, 21] rfl ?_; (try (repeat (first | simp (maxSteps := 40000000) (disch := omega) only [go_sem, ↓reduceIte] | with_reducible refine vIf_t ?_ | with_reducible refine vIf_f ?_))))
      (refine vsCallX_of ?_; (try (repeat (first | simp (maxSteps := 40000000) (disch := omega) only [go_sem, ↓reduceIte] | with_reducible refine vIf_t ?_ | with_reducible refine vIf_f ?_))); refine vCall_eq (p17) (by simp (disch := omega) only [go_sem]) rfl (by first | exact Or.inl rfl | exact Or.inr ⟨rfl, rfl⟩ | (apply Or.inr; simp only [go_sem])) ?_; (try (repeat (first | simp (maxSteps := 40000000) (disch := omega) only [go_sem, ↓reduceIte] | with_reducible refine vIf_t ?_ | with_reducible refine vIf_f ?_))))
      (refine vsCallX_keep [218, 219, 220, 222, 223, 3, 7, 6, 5, 4, 8, 19, 20, 18, 21] rfl ?_; (try (repeat (first | simp (maxSteps := 40000000) (disch := omega) only [go_sem, ↓reduceIte] | with_reducible refine vIf_t ?_ | with_reducible refine vIf_f ?_))))
      (refine vsCallX_of ?_; (try (repeat (first | simp (maxSteps := 40000000) (disch := omega) only [go_sem, ↓reduceIte] | with_reducible refine vIf_t ?_ | with_reducible refine vIf_f ?_))); refine vCall_eq (p18) (by simp (disch := omega) only [go_sem]) rfl (by first | exact Or.inl rfl | exact Or.inr ⟨rfl, rfl⟩ | (apply Or.inr; simp only [go_sem])) ?_; (try (repeat (first | simp (maxSteps := 40000000) (disch := omega) only [go_sem, ↓reduceIte] | with_reducible refine vIf_t ?_ | with_reducible refine vIf_f ?_))))
      (refine vsCallX_keep [218, 221, 222, 223, 3, 7, 6, 5, 4, 8, 19, 20, 18, 21] rfl ?_; (try (repeat (first | simp (maxSteps := 40000000) (disch := omega) only [go_sem, ↓reduceIte] | with_reducible refine vIf_t ?_ | with_reducible refine vIf_f ?_))))
      (refine vsCallX_of ?_; (try (repeat (first | simp (maxSteps := 40000000) (disch := omega) only [go_sem, ↓reduceIte] | with_reducible refine vIf_t ?_ | with_reducible refine vIf_f ?_))); refine vCall_eq (p19) (by simp (disch := omega) only [go_sem]) rfl (by first | exact Or.inl rfl | exact Or.inr ⟨rfl, rfl⟩ | (apply Or.inr; simp only [go_sem])) ?_; (try (repeat (first | simp (maxSteps := 40000000) (disch := omega) only [go_sem, ↓reduceIte] | with_reducible refine vIf_t ?_ | with_reducible refine vIf_f ?_))))
      (refine vsCallX_keep [227, 228, 230, 7, 6, 5, 4, 8, 19, 20, 18, 21] rfl ?_; (try (repeat (first | simp (maxSteps := 40000000) (disch := omega) only [go_sem, ↓reduceIte] | with_reducible refine vIf_t ?_ | with_reducible refine vIf_f ?_))))
      (refine vsCallX_of ?_; (try (repeat (first | simp (maxSteps := 40000000) (disch := omega) only [go_sem, ↓reduceIte] | with_reducible refine vIf_t ?_ | with_reducible refine vIf_f ?_))); refine vCall_eq (q16) (by simp (disch := omega) only [go_sem]) rfl (by first | exact Or.inl rfl | exact Or.inr ⟨rfl, rfl⟩ | (apply Or.inr; simp only [go_sem])) ?_; (try (repeat (first | simp (maxSteps := 40000000) (disch := omega) only [go_sem, ↓reduceIte] | with_reducible refine vIf_t ?_ | with_reducible refine vIf_f ?_))))
      (refine vCallX_keep [227, 229, 230, 7, 6, 5, 4, 8, 19, 20, 18, 21] rfl ?_; (repeat (first | simp (maxSteps := 40000000) (disch := omega) only [go_sem, ↓reduceIte] | with_reducible refine vIf_t ?_ | with_reducible refine vIf_f ?_)))
      exact common.out
    · (try (repeat (first | simp (maxSteps := 40000000) (disch := omega) only [go_sem, ↓reduceIte, hok] | with_reducible refine vIf_t ?_ | with_reducible refine vIf_f ?_)))
      (refine vsCallX_keep [212, 213, 214, 38, 39, 3, 7, 6, 5, 4, 8, 19, 20, 18, 21] rfl ?_; (try (repeat (first | simp (maxSteps := 40000000) (disch := omega) only [go_sem, ↓reduceIte] | with_reducible refine vIf_t ?_ | with_reducible refine vIf_f ?_))))
      (refine vsCallX_of ?_; (try (repeat (first | simp (maxSteps := 40000000) (disch := omega) only [go_sem, ↓reduceIte] | with_reducible refine vIf_t ?_ | with_reducible refine vIf_f ?_))); refine vCall_eq (p17) (by simp (disch := omega) only [go_sem]) rfl (by first | exact Or.inl rfl | exact Or.inr ⟨rfl, rfl⟩ | (apply Or.inr; simp only [go_sem])) ?_; (try (repeat (first | simp (maxSteps := 40000000) (disch := omega) only [go_sem, ↓reduceIte] | with_reducible refine vIf_t ?_ | with_reducible refine vIf_f ?_))))
      (refine vsCallX_keep [218, 219, 220, 222, 223, 3, 7, 6, 5, 4, 8, 19, 20, 18, 21] rfl ?_; (try (repeat (first | simp (maxSteps := 40000000) (disch := omega) only [go_sem, ↓reduceIte] | with_reducible refine vIf_t ?_ | with_reducible refine vIf_f ?_))))
      (refine vsCallX_of ?_; (try (repeat (first | simp (maxSteps := 40000000) (disch := omega) only [go_sem, ↓reduceIte] | with_reducible refine vIf_t ?_ | with_reducible refine vIf_f ?_))); refine vCall_eq (p18) (by simp (disch := omega) only [go_sem]) rfl (by first | exact Or.inl rfl | exact Or.inr ⟨rfl, rfl⟩ | (apply Or.inr; simp only [go_sem])) ?_; (try (repeat (first | simp (maxSteps := 40000000) (disch := omega) only [go_sem, ↓reduceIte] | with_reducible refine vIf_t ?_ | with_reducible refine vIf_f ?_))))
      (refine vsCallX_keep [218, 221, 222, 223, 3, 7, 6, 5, 4, 8, 19, 20, 18, 21] rfl ?_; (try (repeat (first | simp (maxSteps := 40000000) (disch := omega) only [go_sem, ↓reduceIte] | with_reducible refine vIf_t ?_ | with_reducible refine vIf_f ?_))))
      (refine vsCallX_of ?_; (try (repeat (first | simp (maxSteps := 40000000) (disch := omega) only [go_sem, ↓reduceIte] | with_reducible refine vIf_t ?_ | with_reducible refine vIf_f ?_))); refine vCall_eq (p19) (by simp (disch := omega) only [go_sem]) rfl (by first | exact Or.inl rfl | exact Or.inr ⟨rfl, rfl⟩ | (apply Or.inr; simp only [go_sem])) ?_; (try (repeat (first | simp (maxSteps := 40000000) (disch := omega) only [go_sem, ↓reduceIte] | with_reducible refine vIf_t ?_ | with_reducible refine vIf_f ?_))))
      (refine vsCallX_keep [227, 228, 230, 7, 6, 5, 4, 8, 19, 20, 18, 21] rfl ?_; (try (repeat (first | simp (maxSteps := 40000000) (disch := omega) only [go_sem, ↓reduceIte] | with_reducible refine vIf_t ?_ | with_reducible refine vIf_f ?_))))
      (refine vsCallX_of ?_; (try (repeat (first | simp (maxSteps := 40000000) (disch := omega) only [go_sem, ↓reduceIte] | with_reducible refine vIf_t ?_ | with_reducible refine vIf_f ?_))); refine vCall_eq (q16) (by simp (disch := omega) only [go_sem]) rfl (by first | exact Or.inl rfl | exact Or.inr ⟨rfl, rfl⟩ | (apply Or.inr; simp only [go_sem])) ?_; (try (repeat (first | simp (maxSteps := 40000000) (disch := omega) only [go_sem, ↓reduceIte] | with_reducible refine vIf_t ?_ | with_reducible refine vIf_f ?_))))
      (refine vCallX_keep [227, 229, 230, 7, 6, 5, 4, 8, 19, 20, 18, 21] rfl ?_; (repeat (first | simp (maxSteps := 40000000) (disch := omega) only [go_sem, ↓reduceIte] | with_reducible refine vIf_t ?_ | with_reducible refine vIf_f ?_)))
      exact common.out
  (refine vCallX_of ?_; (repeat (first | simp (maxSteps := 40000000) (disch := omega) only [go_sem, ↓reduceIte] | with_reducible refine vIf_t ?_ | with_reducible refine vIf_f ?_)); refine vCall_eq (q17) (by simp (disch := omega) only [go_sem]) rfl (by first | exact Or.inl rfl | exact Or.inr ⟨rfl, rfl⟩ | (apply Or.inr; simp only [go_sem])) ?_; (repeat (first | simp (maxSteps := 40000000) (disch := omega) only [go_sem, ↓reduceIte] | with_reducible refine vIf_t ?_ | with_reducible refine vIf_f ?_)))
  clear p1 p2 p3 p6 p7 p10 p11 p12 p13 p14 p15 p16 p17 p18 p19 p20 q1 q16 q17 hd1 hd2 hd3 hd4 hd5 hd6 hd7
  refine vIf_join (fun _ : Unit => True) (fun _ => ⟨285, 0, [(7, .ptr 0 0), (6, I h), (5, I q), (4, I r), (8, I k1)], [some ⟨3, [I x.rows, I x.cols, .sl x.hs.length (ints x.hs)]⟩]⟩) (fun h5 => ?_) (fun h5 => ?_) ?_
  · have h5 : k3 = 0 := by simpa using h5
    rcases R1 with ⟨_, _, e0⟩ | ⟨_, _, _, e0⟩ | ⟨_, _, _, _, e0⟩ | ⟨ka, kb, kc, kd, ke, _⟩
    · omega
    · omega
    · omega
    have w1 := volBl_ok b lev ka kc
    have d1 : decide (llV b lev < vol) = false := decide_eq_false (by omega)
    have w2 := fun hx => volBl_ok b (lev - 1) ka hx
    have d2 := fun hx => ke (lev - 1) hx (by omega)
    generalize llV b lev = y1 at *
    generalize llV b (lev - 1) = y2 at *
    unfold lC at w1 w2
    (repeat (first | simp (maxSteps := 40000000) (disch := omega) only [go_sem, ↓reduceIte] | with_reducible refine vIf_t ?_ | with_reducible refine vIf_f ?_))
    (refine vCallX_of ?_; (repeat (first | simp (maxSteps := 40000000) (disch := omega) only [go_sem, ↓reduceIte] | with_reducible refine vIf_t ?_ | with_reducible refine vIf_f ?_)); refine vCall_eq (w1) (by simp (disch := omega) only [go_sem]) rfl (by first | exact Or.inl rfl | exact Or.inr ⟨rfl, rfl⟩ | (apply Or.inr; simp only [go_sem])) ?_; (repeat (first | simp (maxSteps := 40000000) (disch := omega) only [go_sem, ↓reduceIte] | with_reducible refine vIf_t ?_ | with_reducible refine vIf_f ?_)))
    (try (repeat (first | simp (maxSteps := 40000000) (disch := omega) only [go_sem, ↓reduceIte, d1] | with_reducible refine vIf_t ?_ | with_reducible refine vIf_f ?_)))
    refine vIf_dec (fun h6 => ?_) (fun h6 => ?_)
    · have w2 := w2 (by omega)
      have d2 := d2 (by omega)
      have d3 : decide (vol ≤ y2) = false := decide_eq_false (by omega)
      (repeat (first | simp (maxSteps := 40000000) (disch := omega) only [go_sem, ↓reduceIte] | with_reducible refine vIf_t ?_ | with_reducible refine vIf_f ?_))
      (refine vCallX_of ?_; (repeat (first | simp (maxSteps := 40000000) (disch := omega) only [go_sem, ↓reduceIte] | with_reducible refine vIf_t ?_ | with_reducible refine vIf_f ?_)); refine vCall_eq (w2) (by simp (disch := omega) only [go_sem]) rfl (by first | exact Or.inl rfl | exact Or.inr ⟨rfl, rfl⟩ | (apply Or.inr; simp only [go_sem])) ?_; (repeat (first | simp (maxSteps := 40000000) (disch := omega) only [go_sem, ↓reduceIte] | with_reducible refine vIf_t ?_ | with_reducible refine vIf_f ?_)))
      (try (repeat (first | simp (maxSteps := 40000000) (disch := omega) only [go_sem, ↓reduceIte, d3] | with_reducible refine vIf_t ?_ | with_reducible refine vIf_f ?_)))
      refine jnF (()) ?_ (by (first | (refine leF_s ?_; ((repeat (first | simp (maxSteps := 40000000) (disch := omega) only [go_sem, ↓reduceIte] | with_reducible refine vIf_t ?_ | with_reducible refine vIf_f ?_)); all_goals (try simp); all_goals (try omega)); done) | (refine leF_p ?_; ((repeat (first | simp (maxSteps := 40000000) (disch := omega) only [go_sem, ↓reduceIte] | with_reducible refine vIf_t ?_ | with_reducible refine vIf_f ?_)); all_goals (try simp); all_goals (try omega)); done)))
      trivial
    · (repeat (first | simp (maxSteps := 40000000) (disch := omega) only [go_sem, ↓reduceIte] | with_reducible refine vIf_t ?_ | with_reducible refine vIf_f ?_))
      refine jnF (()) ?_ (by (first | (refine leF_s ?_; ((repeat (first | simp (maxSteps := 40000000) (disch := omega) only [go_sem, ↓reduceIte] | with_reducible refine vIf_t ?_ | with_reducible refine vIf_f ?_)); all_goals (try simp); all_goals (try omega)); done) | (refine leF_p ?_; ((repeat (first | simp (maxSteps := 40000000) (disch := omega) only [go_sem, ↓reduceIte] | with_reducible refine vIf_t ?_ | with_reducible refine vIf_f ?_)); all_goals (try simp); all_goals (try omega)); done)))
      trivial
  · (repeat (first | simp (maxSteps := 40000000) (disch := omega) only [go_sem, ↓reduceIte] | with_reducible refine vIf_t ?_ | with_reducible refine vIf_f ?_))
    refine jnF (()) ?_ (by (first | (refine leF_s ?_; ((repeat (first | simp (maxSteps := 40000000) (disch := omega) only [go_sem, ↓reduceIte] | with_reducible refine vIf_t ?_ | with_reducible refine vIf_f ?_)); all_goals (try simp); all_goals (try omega)); done) | (refine leF_p ?_; ((repeat (first | simp (maxSteps := 40000000) (disch := omega) only [go_sem, ↓reduceIte] | with_reducible refine vIf_t ?_ | with_reducible refine vIf_f ?_)); all_goals (try simp); all_goals (try omega)); done)))
    trivial
  rintro _ _
  by_cases hk0 : k1 = 0
  · obtain ⟨f1, f2, f3⟩ := F1 hk0
    rw [f1] at p4
    rw [f2, f3] at p5
    subst hk0
    (repeat (first | simp (maxSteps := 40000000) (disch := omega) only [go_sem, ↓reduceIte] | with_reducible refine vIf_t ?_ | with_reducible refine vIf_f ?_))
    (refine vCallX_of ?_; (repeat (first | simp (maxSteps := 40000000) (disch := omega) only [go_sem, ↓reduceIte] | with_reducible refine vIf_t ?_ | with_reducible refine vIf_f ?_)); refine vCall_eq (p5) (by simp (disch := omega) only [go_sem]) rfl (by first | exact Or.inl rfl | exact Or.inr ⟨rfl, rfl⟩ | (apply Or.inr; simp only [go_sem])) ?_; (repeat (first | simp (maxSteps := 40000000) (disch := omega) only [go_sem, ↓reduceIte] | with_reducible refine vIf_t ?_ | with_reducible refine vIf_f ?_)))
    (refine vCallX_of ?_; (repeat (first | simp (maxSteps := 40000000) (disch := omega) only [go_sem, ↓reduceIte] | with_reducible refine vIf_t ?_ | with_reducible refine vIf_f ?_)); refine vCall_eq (p4) (by simp (disch := omega) only [go_sem]) rfl (by first | exact Or.inl rfl | exact Or.inr ⟨rfl, rfl⟩ | (apply Or.inr; simp only [go_sem])) ?_; (repeat (first | simp (maxSteps := 40000000) (disch := omega) only [go_sem, ↓reduceIte] | with_reducible refine vIf_t ?_ | with_reducible refine vIf_f ?_)))
    (refine retK_of ?_; (repeat (first | simp (maxSteps := 40000000) (disch := omega) only [go_sem, ↓reduceIte] | with_reducible refine vIf_t ?_ | with_reducible refine vIf_f ?_)))
  · have e0 : (k1 != 0) = true := by simpa using hk0
    (repeat (first | simp (maxSteps := 40000000) (disch := omega) only [go_sem, ↓reduceIte, e0] | with_reducible refine vIf_t ?_ | with_reducible refine vIf_f ?_))
    (try (repeat (first | simp (maxSteps := 40000000) (disch := omega) only [go_sem, ↓reduceIte, e0] | with_reducible refine vIf_t ?_ | with_reducible refine vIf_f ?_)))
    (refine retK_of ?_; (repeat (first | simp (maxSteps := 40000000) (disch := omega) only [go_sem, ↓reduceIte] | with_reducible refine vIf_t ?_ | with_reducible refine vIf_f ?_)))
end Go.Proofs.YtfhckmlmfigfjaaGreatDoor

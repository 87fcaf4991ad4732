/- lands: texts: the walk of the model's text; lands: texts of the model: written, drawn, read; lands: texts read by the model: plain -/
import Derived.Test.YtfhckmlmfigfjaaGreatDoorLnt4
import Derived.Test.YtfhckmlmfigfjaaGreatDoorT8
import Derived.Test.YtfhckmlmfigfjaaGreatDoorT7
set_option linter.unusedVariables false
set_option linter.unusedSimpArgs false
namespace Go.Proofs.YtfhckmlmfigfjaaGreatDoor
open Go.AG Go.Lib

attribute [local go_sem] beq_self_eq_true bne_self_eq_false Bool.not_true Bool.not_false
/-- a text's bytes, as numbers -/
def nb (l : List UInt8) : List Int := l.map fun b => (b.toNat : Int)
@[local go_sem] theorem nb_len (l : List UInt8) : (nb l).length = l.length := by simp [nb]
theorem nb_app (a b : List UInt8) : nb (a ++ b) = nb a ++ nb b := by simp [nb]
theorem mkS_nb (l : List UInt8) : mkS (nb l) = tx l := by
  unfold mkS nb tx
  congr 1
  rw [List.map_map]
  congr 1
  conv => rhs; rw [← List.map_id l]
  refine List.map_congr_left fun b _ => ?_
  simp
@[local go_sem] theorem strB_tx (l : List UInt8) : strB (tx l) = bts (nb l) := by
  simp [strB, bts, nb, list_tx]
@[local go_sem] theorem strB_dec (n : Int) : strB (decS n) = bts (nb (itoa n)) := strB_tx _
@[local go_sem] theorem decS_sz (n : Int) : (decS n).size = (itoa n).length := tx_size _
@[local go_sem] theorem vcOp_appB {d ty p af g} (x y : Operand) (K : AState → Prop) (s : AState) :
    vcOp Tryz.prog ⟨d, .call ⟨.builtin .append, #[x, y], #[22, 9]⟩, ty, p, af, g⟩ K s = vAppS Tryz.prog (ti Tryz.prog 22).desc (ti Tryz.prog 9).desc s (s.ev x) (s.ev y) d K :=
  by rw [Go.AG.vcOp_appendS]; decide
@[local go_sem] theorem nb_10 : nb [10] = [10] := rfl
@[local go_sem] theorem nb_32 : nb [32] = [32] := rfl
@[local go_sem] theorem take_one1 (xs : List Int) (y : Int) : List.take (xs.length + 1) (xs ++ [y]) = xs ++ [y] := List.take_of_length_le (by simp)
@[local go_sem] theorem take_oneB (l : List UInt8) (y : Int) : List.take (l.length + 1) (nb l ++ [y]) = nb l ++ [y] := List.take_of_length_le (by simp [nb])
theorem joB_snoc (b : UInt8) : ∀ (xs : List (List UInt8)) (x : List UInt8), joB b (xs ++ [x]) = joB b xs ++ (if xs.length = 0 then x else b :: x)
  | [], x => by simp [joB]
  | [y], x => by simp [joB]
  | y :: z :: r, x => by
    have ih := joB_snoc b (z :: r) x
    rw [show y :: z :: r ++ [x] = y :: ((z :: r) ++ [x]) from rfl]
    rw [show joB b (y :: ((z :: r) ++ [x])) = y ++ b :: joB b ((z :: r) ++ [x]) from rfl, ih]
    simp [joB]
theorem lnB_take (r : List Int) (k : Nat) (hk : k < r.length) : lnB (r.take (k + 1)) = lnB (r.take k) ++ (if k = 0 then itoa (gi r k) else 32 :: itoa (gi r k)) := by
  unfold lnB
  rw [take_succ_gi r k hk, List.map_append, List.map_cons, List.map_nil, joB_snoc]
  simp only [List.length_map, List.length_take]
  rw [show min k r.length = k by omega]
theorem rwL_gi (c : Nat) (hs : List Int) (i k : Nat) (h : k < c) : gi (rwL c hs i) k = gi hs (i * c + k) := by
  unfold rwL gi
  simp [List.getD_eq_getElem?_getD, List.getElem?_take, List.getElem?_drop, h]
theorem rwL_lenE {l : Ld} (Q : LdQ l) (i : Nat) (hi : i < l.rows.toNat) : (rwL l.cols.toNat l.hs i).length = l.cols.toNat := by
  unfold rwL
  rw [List.length_take, List.length_drop, Q.n]
  have : (i + 1) * l.cols.toNat ≤ l.rows.toNat * l.cols.toNat := Nat.mul_le_mul_right _ (by omega)
  rw [Nat.add_mul, Nat.one_mul] at this
  omega
set_option maxRecDepth 20000 in
set_option maxHeartbeats 4000000 in
theorem l03Text_ok (l : Ld) (Q : LdQ l) : ACalls Tryz.prog 147 [.ip (lC l) 0] [] (fun r o => r = St (tx (ldT l)) ∧ o = []) := by
  refine ACalls.of_vc Tryz.func147 rfl (by decide) 50 rfl [.tmp 2] rfl (by simp) ?_
  have hr := Q.r
  have hc := Q.c
  have hn : l.hs.length ≤ 144 := (okL_F ((okL_iff l).2 Q)).n
  obtain ⟨n, hn0⟩ : ∃ n : Nat, n = l.rows.toNat := ⟨_, rfl⟩
  obtain ⟨c, hc0⟩ : ∃ c : Nat, c = l.cols.toNat := ⟨_, rfl⟩
  have er : l.rows = (n : Int) := by omega
  have ec : l.cols = (c : Int) := by omega
  have hln := Q.n
  have hrl : ∀ i, i < n → (rwL c l.hs i).length = c := fun i hi => by rw [hc0]; exact rwL_lenE Q i (by omega)
  have hT : ∀ i, i ≤ n → (lnE (lnsL i c l.hs)).length ≤ 4000 := fun i hi => ldT_len Q.nok (by omega) (by omega)
  have hB : ∀ i k, (lnB ((rwL c l.hs i).take k)).length ≤ 300 := fun i k => lnB_len (fun x hx => Q.nok x (rwL_mem (List.mem_of_mem_take hx))) (by have := rwL_len c l.hs i; rw [List.length_take]; omega)
  have eT : ldT l = lnE (lnsL n c l.hs) := by rw [hn0, hc0]; rfl
  rw [← hn0, ← hc0] at hln
  rw [eT]
  unfold lC
  rw [er, ec]
  (repeat (first | simp (maxSteps := 2000000) (disch := omega) only [go_sem, ↓reduceIte] | with_reducible refine vIf_t ?_ | with_reducible refine vIf_f ?_))
  refine vcLoop_invF (fun i : Nat => i ≤ n) (fun i => ⟨50, 0, [(0, .ip [I n, I c, .sl l.hs.length (ints l.hs)] 0), (4, I i), (3, .ref 0 0 (nb (lnE (lnsL i c l.hs))).length)], [some ⟨1, bts (nb (lnE (lnsL i c l.hs)))⟩]⟩) (fun i => n - i) 0 (by omega) (by rw [show lnE (lnsL 0 c l.hs) = [] from rfl, show nb [] = [] from rfl]; (first | (refine leF_s ?_; ((repeat (first | simp (maxSteps := 2000000) (disch := omega) only [go_sem, ↓reduceIte] | with_reducible refine vIf_t ?_ | with_reducible refine vIf_f ?_)); all_goals (try simp); all_goals (try omega)); done) | (refine leF_p ?_; ((repeat (first | simp (maxSteps := 2000000) (disch := omega) only [go_sem, ↓reduceIte] | with_reducible refine vIf_t ?_ | with_reducible refine vIf_f ?_)); all_goals (try simp); all_goals (try omega)); done))) ?_
  intro i hi
  have hTi := hT i hi
  (repeat (first | simp (maxSteps := 2000000) (disch := omega) only [go_sem, ↓reduceIte] | with_reducible refine vIf_t ?_ | with_reducible refine vIf_f ?_))
  refine vIf_dec (fun h => ?_) (fun h => ?_)
  · have hin : i < n := by omega
    have hli := hrl i hin
    have hsn := lnsL_snoc i c l.hs
    have hic : i * c + c ≤ l.hs.length := by
      rw [hln]
      have : (i + 1) * c ≤ n * c := Nat.mul_le_mul_right _ (by omega)
      rw [Nat.add_mul, Nat.one_mul] at this
      exact this
    have hmul : (i : Int) * (c : Int) = ((i * c : Nat) : Int) := by rw [Int.natCast_mul]
    have hg := rwL_gi c l.hs i
    have hBi := hB i
    have hmem : ∀ k, k < c → -2000 ≤ gi l.hs (i * c + k) ∧ gi l.hs (i * c + k) ≤ 2000 := fun k hk => Q.h _ (gi_mem l.hs _ (by omega))
    generalize rwL c l.hs i = R at *
    generalize i * c = ic at *
    generalize hA : lnE (lnsL i c l.hs) = A at *
    (repeat (first | simp (maxSteps := 2000000) (disch := omega) only [go_sem, ↓reduceIte] | with_reducible refine vIf_t ?_ | with_reducible refine vIf_f ?_))
    refine vcLoop_invF (fun k : Nat => k ≤ c) (fun k => ⟨50, 0, [(5, I k), (0, .ip [I n, I c, .sl l.hs.length (ints l.hs)] 0), (4, I i), (3, .ref 0 0 (nb (A ++ lnB (R.take k))).length)], [some ⟨1, bts (nb (A ++ lnB (R.take k)))⟩]⟩) (fun k => c - k) 0 (by omega) (by rw [show lnB (R.take 0) = [] from rfl, List.append_nil]; (first | (refine leF_s ?_; ((repeat (first | simp (maxSteps := 2000000) (disch := omega) only [go_sem, ↓reduceIte] | with_reducible refine vIf_t ?_ | with_reducible refine vIf_f ?_)); all_goals (try simp); all_goals (try omega)); done) | (refine leF_p ?_; ((repeat (first | simp (maxSteps := 2000000) (disch := omega) only [go_sem, ↓reduceIte] | with_reducible refine vIf_t ?_ | with_reducible refine vIf_f ?_)); all_goals (try simp); all_goals (try omega)); done))) ?_
    intro k hk
    have hBk := hBi k
    have hlk : (nb (A ++ lnB (R.take k))).length = A.length + (lnB (R.take k)).length := by rw [nb_len, List.length_append]
    (repeat (first | simp (maxSteps := 2000000) (disch := omega) only [go_sem, ↓reduceIte] | with_reducible refine vIf_t ?_ | with_reducible refine vIf_f ?_))
    refine vIf_dec (fun h5 => ?_) (fun h5 => ?_)
    · have hkc : k < c := by omega
      have hx := hmem k hkc
      have ht := lnB_take R k (by omega)
      rw [hg k hkc] at ht
      have hd := l01Dec_ok (gi l.hs (ic + k)) (by omega)
      have hil := itoa_short (gi l.hs (ic + k)) hx
      have hz : ((ic : Int) + (k : Int)).toNat = ic + k := by omega
      rcases Nat.eq_zero_or_pos k with hk0 | hk0
      · have d0 : decide (0 < (k : Int)) = false := decide_eq_false (by omega)
        (repeat (first | simp (maxSteps := 2000000) (disch := omega) only [go_sem, ↓reduceIte, d0] | with_reducible refine vIf_t ?_ | with_reducible refine vIf_f ?_))
        (try (repeat (first | simp (maxSteps := 2000000) (disch := omega) only [go_sem, ↓reduceIte, d0] | with_reducible refine vIf_t ?_ | with_reducible refine vIf_f ?_)))
        (refine vDraw_sch 16 [(0, false), (1, false), (2, false), (3, false), (5, false), (6, false), (7, false), (8, false), (11, false), (4, false), (9, true), (10, false), (12, false), (13, false), (14, true), (15, false)] mixed (by kernel_rfl) ?_; simp only [List.cons_append, List.nil_append, List.map_cons, List.map_nil, nthO_zero, nthO_succ, List.drop_succ_cons, List.drop_zero, List.drop_nil]; (repeat (first | simp (maxSteps := 2000000) (disch := omega) only [go_sem, ↓reduceIte] | with_reducible refine vIf_t ?_ | with_reducible refine vIf_f ?_)))
        (try (repeat (first | simp (maxSteps := 2000000) (disch := omega) only [go_sem, ↓reduceIte, hmul, hz] | with_reducible refine vIf_t ?_ | with_reducible refine vIf_f ?_)))
        (refine vsCallX_of ?_; (try (repeat (first | simp (maxSteps := 2000000) (disch := omega) only [go_sem, ↓reduceIte] | with_reducible refine vIf_t ?_ | with_reducible refine vIf_f ?_))); refine vCall_eq (hd) (by simp (disch := omega) only [go_sem]) rfl (by first | exact Or.inl rfl | exact Or.inr ⟨rfl, rfl⟩ | (apply Or.inr; simp only [go_sem])) ?_; (try (repeat (first | simp (maxSteps := 2000000) (disch := omega) only [go_sem, ↓reduceIte] | with_reducible refine vIf_t ?_ | with_reducible refine vIf_f ?_))))
        (try (repeat (first | simp (maxSteps := 2000000) (disch := omega) only [go_sem, ↓reduceIte] | with_reducible refine vIf_t ?_ | with_reducible refine vIf_f ?_)))
        refine againF (k + 1) (by omega) (by omega) ?_
        rw [ht, if_pos hk0, ← List.append_assoc, nb_app (A ++ lnB (List.take k R))]
        (first | (refine leF_s ?_; ((repeat (first | simp (maxSteps := 2000000) (disch := omega) only [go_sem, ↓reduceIte] | with_reducible refine vIf_t ?_ | with_reducible refine vIf_f ?_)); all_goals (try simp); all_goals (try omega)); done) | (refine leF_p ?_; ((repeat (first | simp (maxSteps := 2000000) (disch := omega) only [go_sem, ↓reduceIte] | with_reducible refine vIf_t ?_ | with_reducible refine vIf_f ?_)); all_goals (try simp); all_goals (try omega)); done))
      · have d0 : decide (0 < (k : Int)) = true := decide_eq_true (by omega)
        (repeat (first | simp (maxSteps := 2000000) (disch := omega) only [go_sem, ↓reduceIte, d0] | with_reducible refine vIf_t ?_ | with_reducible refine vIf_f ?_))
        (try (repeat (first | simp (maxSteps := 2000000) (disch := omega) only [go_sem, ↓reduceIte, d0] | with_reducible refine vIf_t ?_ | with_reducible refine vIf_f ?_)))
        (refine vDraw_sch 16 [(0, false), (1, false), (2, false), (3, false), (5, false), (6, false), (7, false), (8, false), (11, false), (4, false), (9, true), (10, false), (12, false), (13, false), (14, true), (15, false)] mixed (by kernel_rfl) ?_; simp only [List.cons_append, List.nil_append, List.map_cons, List.map_nil, nthO_zero, nthO_succ, List.drop_succ_cons, List.drop_zero, List.drop_nil]; (repeat (first | simp (maxSteps := 2000000) (disch := omega) only [go_sem, ↓reduceIte] | with_reducible refine vIf_t ?_ | with_reducible refine vIf_f ?_)))
        (try (repeat (first | simp (maxSteps := 2000000) (disch := omega) only [go_sem, ↓reduceIte, hmul, hz] | with_reducible refine vIf_t ?_ | with_reducible refine vIf_f ?_)))
        (refine vsCallX_of ?_; (try (repeat (first | simp (maxSteps := 2000000) (disch := omega) only [go_sem, ↓reduceIte] | with_reducible refine vIf_t ?_ | with_reducible refine vIf_f ?_))); refine vCall_eq (hd) (by simp (disch := omega) only [go_sem]) rfl (by first | exact Or.inl rfl | exact Or.inr ⟨rfl, rfl⟩ | (apply Or.inr; simp only [go_sem])) ?_; (try (repeat (first | simp (maxSteps := 2000000) (disch := omega) only [go_sem, ↓reduceIte] | with_reducible refine vIf_t ?_ | with_reducible refine vIf_f ?_))))
        (try (repeat (first | simp (maxSteps := 2000000) (disch := omega) only [go_sem, ↓reduceIte] | with_reducible refine vIf_t ?_ | with_reducible refine vIf_f ?_)))
        refine againF (k + 1) (by omega) (by omega) ?_
        rw [ht, if_neg (by omega), ← List.append_assoc, show A ++ lnB (List.take k R) ++ 32 :: itoa (gi l.hs (ic + k)) = A ++ lnB (List.take k R) ++ [32] ++ itoa (gi l.hs (ic + k)) by simp, nb_app (A ++ lnB (List.take k R) ++ [32]), nb_app (A ++ lnB (List.take k R))]
        have tk : List.take (A.length + (lnB (List.take k R)).length + 1) (nb (A ++ lnB (List.take k R)) ++ [32]) = nb (A ++ lnB (List.take k R)) ++ [32] := List.take_of_length_le (by simp [nb]; omega)
        refine leF_p ?_
        (repeat (first | simp (maxSteps := 2000000) (disch := omega) only [go_sem, ↓reduceIte, tk] | with_reducible refine vIf_t ?_ | with_reducible refine vIf_f ?_))
        try simp
        try omega
    · have ek : k = c := by omega
      have eR : R.take k = R := List.take_of_length_le (by omega)
      rw [eR] at hBk hlk ⊢
      (repeat (first | simp (maxSteps := 2000000) (disch := omega) only [go_sem, ↓reduceIte] | with_reducible refine vIf_t ?_ | with_reducible refine vIf_f ?_))
      refine againF (i + 1) (by omega) (by omega) ?_
      rw [show lnsL (i + 1) c l.hs = lnsL i c l.hs ++ [lnB R] from hsn, lnE_snoc, hA, ← List.append_assoc, nb_app (A ++ lnB R)]
      (first | (refine leF_s ?_; ((repeat (first | simp (maxSteps := 2000000) (disch := omega) only [go_sem, ↓reduceIte] | with_reducible refine vIf_t ?_ | with_reducible refine vIf_f ?_)); all_goals (try simp); all_goals (try omega)); done) | (refine leF_p ?_; ((repeat (first | simp (maxSteps := 2000000) (disch := omega) only [go_sem, ↓reduceIte] | with_reducible refine vIf_t ?_ | with_reducible refine vIf_f ?_)); all_goals (try simp); all_goals (try omega)); done))
  · have ei : i = n := by omega
    rw [ei]
    rw [ei] at hTi
    have hsl : (nb (lnE (lnsL n c l.hs))).length ≤ 4000 := by rw [nb_len]; exact hTi
    generalize hA : lnE (lnsL n c l.hs) = A at *
    (repeat (first | simp (maxSteps := 2000000) (disch := omega) only [go_sem, ↓reduceIte] | with_reducible refine vIf_t ?_ | with_reducible refine vIf_f ?_))
    (refine retK_of ?_; (repeat (first | simp (maxSteps := 2000000) (disch := omega) only [go_sem, ↓reduceIte] | with_reducible refine vIf_t ?_ | with_reducible refine vIf_f ?_)))
    rw [List.take_of_length_le (by rw [nb_len]; omega), mkS_nb]
end Go.Proofs.YtfhckmlmfigfjaaGreatDoor
namespace Go.Proofs.YtfhckmlmfigfjaaGreatDoor
open Go.AG Go.Lib

attribute [local go_sem] beq_self_eq_true bne_self_eq_false Bool.not_true Bool.not_false
@[local go_sem] theorem mk_txL6 (l : List UInt8) : ByteArray.mk (List.toArray l) = tx l := rfl
theorem landTextS_ok (l : Ld) (hl : l.hs.length ≤ 10000000) : ACalls Tryz.prog 51 [.agg (lC l)] [] (fun r o => r = St (tx (if okL l = true then ldT l else [])) ∧ o = []) := by
  refine ACalls.of_vc Tryz.func51 rfl (by decide) 6 rfl [.tmp 2] rfl (by simp) ?_
  have h1 := l03Ok_ok l hl
  cases hk : okL l with
  | false =>
    rw [hk] at h1
    rw [if_neg (by simp)]
    unfold lC at h1 ⊢
    (repeat (first | simp (maxSteps := 2000000) (disch := omega) only [go_sem, ↓reduceIte] | with_reducible refine vIf_t ?_ | with_reducible refine vIf_f ?_))
    (refine vCallX_of ?_; (repeat (first | simp (maxSteps := 2000000) (disch := omega) only [go_sem, ↓reduceIte] | with_reducible refine vIf_t ?_ | with_reducible refine vIf_f ?_)); refine vCall_eq (h1) (by simp (disch := omega) only [go_sem]) rfl (by first | exact Or.inl rfl | exact Or.inr ⟨rfl, rfl⟩ | (apply Or.inr; simp only [go_sem])) ?_; (repeat (first | simp (maxSteps := 2000000) (disch := omega) only [go_sem, ↓reduceIte] | with_reducible refine vIf_t ?_ | with_reducible refine vIf_f ?_)))
    (refine retK_of ?_; (repeat (first | simp (maxSteps := 2000000) (disch := omega) only [go_sem, ↓reduceIte] | with_reducible refine vIf_t ?_ | with_reducible refine vIf_f ?_)))
    try rfl
  | true =>
    rw [hk] at h1
    have h2 := l03Text_ok l ((okL_iff l).1 hk)
    rw [if_pos rfl]
    unfold lC at h1 h2 ⊢
    (repeat (first | simp (maxSteps := 2000000) (disch := omega) only [go_sem, ↓reduceIte] | with_reducible refine vIf_t ?_ | with_reducible refine vIf_f ?_))
    (refine vCallX_fz 0 _ rfl (by (repeat (first | simp (maxSteps := 2000000) (disch := omega) only [go_sem, ↓reduceIte] | with_reducible refine vIf_t ?_ | with_reducible refine vIf_f ?_))) ?_; (repeat (first | simp (maxSteps := 2000000) (disch := omega) only [go_sem, ↓reduceIte] | with_reducible refine vIf_t ?_ | with_reducible refine vIf_f ?_)))
    (refine vCallX_of ?_; (repeat (first | simp (maxSteps := 2000000) (disch := omega) only [go_sem, ↓reduceIte] | with_reducible refine vIf_t ?_ | with_reducible refine vIf_f ?_)); refine vCall_eq (h1) (by simp (disch := omega) only [go_sem]) rfl (by first | exact Or.inl rfl | exact Or.inr ⟨rfl, rfl⟩ | (apply Or.inr; simp only [go_sem])) ?_; (repeat (first | simp (maxSteps := 2000000) (disch := omega) only [go_sem, ↓reduceIte] | with_reducible refine vIf_t ?_ | with_reducible refine vIf_f ?_)))
    (refine vCallX_of ?_; (repeat (first | simp (maxSteps := 2000000) (disch := omega) only [go_sem, ↓reduceIte] | with_reducible refine vIf_t ?_ | with_reducible refine vIf_f ?_)); refine vCall_eq (h2) (by simp (disch := omega) only [go_sem]) rfl (by first | exact Or.inl rfl | exact Or.inr ⟨rfl, rfl⟩ | (apply Or.inr; simp only [go_sem])) ?_; (repeat (first | simp (maxSteps := 2000000) (disch := omega) only [go_sem, ↓reduceIte] | with_reducible refine vIf_t ?_ | with_reducible refine vIf_f ?_)))
    (refine retK_of ?_; (repeat (first | simp (maxSteps := 2000000) (disch := omega) only [go_sem, ↓reduceIte] | with_reducible refine vIf_t ?_ | with_reducible refine vIf_f ?_)))
    try rfl
set_option maxRecDepth 20000 in
theorem drawRL6_e {code : List Int} (g : SrOk code) : ACalls Tryz.prog 47 [bS code] [] (fun r o => ∃ t : List UInt8, r = St (tx t) ∧ o = [] ∧ Asc t ∧ t.length ≤ 9000) := by
  refine ACalls.of_vc Tryz.func47 rfl (by decide) 17 rfl [.tmp 2] rfl (by simp) ?_
  have hf := from_e g
  unfold bS at hf ⊢
  (repeat (first | simp (maxSteps := 2000000) (disch := omega) only [go_sem, ↓reduceIte] | with_reducible refine vIf_t ?_ | with_reducible refine vIf_f ?_))
  (refine vCallX_of ?_; (repeat (first | simp (maxSteps := 2000000) (disch := omega) only [go_sem, ↓reduceIte] | with_reducible refine vIf_t ?_ | with_reducible refine vIf_f ?_)); refine vCall_eq (hf) (by simp (disch := omega) only [go_sem]) rfl (by first | exact Or.inl rfl | exact Or.inr ⟨rfl, rfl⟩ | (apply Or.inr; simp only [go_sem])) ?_; (repeat (first | simp (maxSteps := 2000000) (disch := omega) only [go_sem, ↓reduceIte] | with_reducible refine vIf_t ?_ | with_reducible refine vIf_f ?_)))
  (refine vCallX_io [0] ?_; (repeat (first | simp (maxSteps := 2000000) (disch := omega) only [go_sem, ↓reduceIte] | with_reducible refine vIf_t ?_ | with_reducible refine vIf_f ?_)); refine vCallIO_ex (l03DrawT_e g ⟨0, 0⟩ (by simp)) (by simp (disch := omega) only [go_sem]) (by simp (disch := omega) only [go_sem]) (by first | rfl | (simp (disch := omega) only [go_sem])) (by first | rfl | (simp (disch := omega) only [go_sem])) (by first | rfl | (simp (disch := omega) only [go_sem])) ?_); rintro _ _ ⟨a, b, hs, σ1, rfl, rfl, Q, n2⟩; (refine ⟨by first | (simp (disch := omega) only [go_sem]) | trivial, ?_⟩; (repeat (first | simp (maxSteps := 2000000) (disch := omega) only [go_sem, ↓reduceIte] | with_reducible refine vIf_t ?_ | with_reducible refine vIf_f ?_)))
  simp only at n2
  have ht := l03Text_ok ⟨a, b, hs⟩ Q
  have hla := ldT_asc ⟨a, b, hs⟩
  have hll : (ldT ⟨a, b, hs⟩).length ≤ 4000 := ldT_len Q.nok (by have := Q.r; simp only at this ⊢; omega) (by have := Q.c; simp only at this ⊢; omega)
  unfold lC at ht
  generalize ldT ⟨a, b, hs⟩ = T at *
  simp only at ht
  (refine vCallX_fz 1 _ rfl (by (repeat (first | simp (maxSteps := 2000000) (disch := omega) only [go_sem, ↓reduceIte] | with_reducible refine vIf_t ?_ | with_reducible refine vIf_f ?_))) ?_; (repeat (first | simp (maxSteps := 2000000) (disch := omega) only [go_sem, ↓reduceIte] | with_reducible refine vIf_t ?_ | with_reducible refine vIf_f ?_)); refine vCallX_fz 2 _ rfl (by (repeat (first | simp (maxSteps := 2000000) (disch := omega) only [go_sem, ↓reduceIte] | with_reducible refine vIf_t ?_ | with_reducible refine vIf_f ?_))) ?_; (repeat (first | simp (maxSteps := 2000000) (disch := omega) only [go_sem, ↓reduceIte] | with_reducible refine vIf_t ?_ | with_reducible refine vIf_f ?_)))
  (refine vCallX_of ?_; (repeat (first | simp (maxSteps := 2000000) (disch := omega) only [go_sem, ↓reduceIte] | with_reducible refine vIf_t ?_ | with_reducible refine vIf_f ?_)); refine vCall_eq (ht) (by simp (disch := omega) only [go_sem]) rfl (by first | exact Or.inl rfl | exact Or.inr ⟨rfl, rfl⟩ | (apply Or.inr; simp only [go_sem])) ?_; (repeat (first | simp (maxSteps := 2000000) (disch := omega) only [go_sem, ↓reduceIte] | with_reducible refine vIf_t ?_ | with_reducible refine vIf_f ?_)))
  (refine vCallX_io [0] ?_; (repeat (first | simp (maxSteps := 2000000) (disch := omega) only [go_sem, ↓reduceIte] | with_reducible refine vIf_t ?_ | with_reducible refine vIf_f ?_)); refine vCallIO_ex (one_e g 3 σ1 (by omega)) (by simp (disch := omega) only [go_sem]) (by simp (disch := omega) only [go_sem]) (by first | rfl | (simp (disch := omega) only [go_sem])) (by first | rfl | (simp (disch := omega) only [go_sem])) (by first | rfl | (simp (disch := omega) only [go_sem])) ?_); rintro _ _ ⟨q, σ2, rfl, rfl, h2⟩; (refine ⟨by first | (simp (disch := omega) only [go_sem]) | trivial, ?_⟩; (repeat (first | simp (maxSteps := 2000000) (disch := omega) only [go_sem, ↓reduceIte] | with_reducible refine vIf_t ?_ | with_reducible refine vIf_f ?_)))
  cases q with
  | true =>
    (repeat (first | simp (maxSteps := 2000000) (disch := omega) only [go_sem, ↓reduceIte] | with_reducible refine vIf_t ?_ | with_reducible refine vIf_f ?_))
    (refine vCallX_io [0] ?_; (repeat (first | simp (maxSteps := 2000000) (disch := omega) only [go_sem, ↓reduceIte] | with_reducible refine vIf_t ?_ | with_reducible refine vIf_f ?_)); refine vCallIO_ex (l01Spoil_e g σ2 T (by omega) (by omega) hla) (by simp (disch := omega) only [go_sem]) (by simp (disch := omega) only [go_sem]) (by first | rfl | (simp (disch := omega) only [go_sem])) (by first | rfl | (simp (disch := omega) only [go_sem])) (by first | rfl | (simp (disch := omega) only [go_sem])) ?_); rintro _ _ ⟨l, σ3, rfl, rfl, h3, h4⟩; (refine ⟨by first | (simp (disch := omega) only [go_sem]) | trivial, ?_⟩; (repeat (first | simp (maxSteps := 2000000) (disch := omega) only [go_sem, ↓reduceIte] | with_reducible refine vIf_t ?_ | with_reducible refine vIf_f ?_)))
    (refine retK_of ?_; (repeat (first | simp (maxSteps := 2000000) (disch := omega) only [go_sem, ↓reduceIte] | with_reducible refine vIf_t ?_ | with_reducible refine vIf_f ?_)))
    exact ⟨l, rfl, h3, by omega⟩
  | false =>
    (repeat (first | simp (maxSteps := 2000000) (disch := omega) only [go_sem, ↓reduceIte] | with_reducible refine vIf_t ?_ | with_reducible refine vIf_f ?_))
    (refine retK_of ?_; (repeat (first | simp (maxSteps := 2000000) (disch := omega) only [go_sem, ↓reduceIte] | with_reducible refine vIf_t ?_ | with_reducible refine vIf_f ?_)))
    exact ⟨T, rfl, hla, by omega⟩
end Go.Proofs.YtfhckmlmfigfjaaGreatDoor
namespace Go.Proofs.YtfhckmlmfigfjaaGreatDoor
open Go.AG Go.Lib

theorem lnT_flG {n c : Nat} {hs : List Int} (hl : hs.length = n * c) : flG pn (lnE (lnsL n c hs)) none = hs.map itoa := by
  have e : lnsL n c hs = ((List.range n).map (rwL c hs)).map lnB := by simp [lnsL]
  rw [e, flG_lines c hs, rwL_flat, ← hl, List.take_length]
theorem lnT_nums {n c : Nat} {hs : List Int} (hl : hs.length = n * c) (hn : ∀ x ∈ hs, nOk x) : nums (lnE (lnsL n c hs)) = hs := nums_of (lnT_flG hl) hn
theorem rwL_app_l {c : Nat} {hs ns : List Int} {i j : Nat} (h : hs.length = i * c) (hj : j < i) : rwL c (hs ++ ns) j = rwL c hs j := by
  unfold rwL
  have h1 : (j + 1) * c ≤ i * c := Nat.mul_le_mul_right _ hj
  rw [Nat.add_mul, Nat.one_mul] at h1
  rw [List.drop_append_of_le_length (by omega), List.take_append_of_le_length (by rw [List.length_drop]; omega)]
theorem rwL_app_r {c : Nat} {hs ns : List Int} {i : Nat} (h : hs.length = i * c) (hn : ns.length = c) : rwL c (hs ++ ns) i = ns := by
  unfold rwL
  rw [← h, List.drop_left, List.take_of_length_le (by omega)]
/-- the parts of a land's text -/
structure RlP (L : List (List UInt8)) (l : Ld) : Prop where
  Q : LdQ l
  n : L.length = l.rows.toNat + 1
  e : L.getD l.rows.toNat [] = []
  r : ∀ j, j < l.rows.toNat → splB 32 (L.getD j []) [] = (rwL l.cols.toNat l.hs j).map itoa ∧ (rwL l.cols.toNat l.hs j).length = l.cols.toNat
theorem rl_parts {t : List UInt8} {l : Ld} (h : LdQ l) (e : ldT l = t) : RlP (splB 10 t []) l := by
  subst e
  rw [ldT_split]
  have hl := lnsL_len l.rows.toNat l.cols.toNat l.hs
  refine ⟨h, by simp [hl], ?_, fun j hj => ?_⟩
  · rw [List.getD_eq_getElem?_getD, List.getElem?_append_right (by omega), hl]
    simp
  · have hr := rwL_lenE h j hj
    refine ⟨?_, hr⟩
    have eg : (lnsL l.rows.toNat l.cols.toNat l.hs ++ [[]]).getD j [] = lnB (rwL l.cols.toNat l.hs j) := by
      rw [List.getD_eq_getElem?_getD, List.getElem?_append_left (by omega)]
      simp [lnsL, hj]
    rw [eg]
    refine lnB_split _ fun e => ?_
    rw [e] at hr
    have := h.c
    simp at hr
    omega
/-- what is read so far -/
structure RlI (L : List (List UInt8)) (i c : Nat) (hs : List Int) : Prop where
  n : hs.length = i * c
  k : ∀ x ∈ hs, nOk x
  g : ∀ j, j < i → L.getD j [] = lnB (rwL c hs j)
  c : 0 < i → c = (splB 32 (L.getD 0 []) []).length
theorem RlI.zero (L : List (List UInt8)) (c : Nat) : RlI L 0 c [] := ⟨by simp, by simp, fun j hj => by omega, fun h => by omega⟩
theorem lnB_back {t : List UInt8} {ns : List Int} (h : splB 32 t [] = ns.map itoa) : t = lnB ns := by
  have := joB_splB 32 t []
  rw [List.nil_append, h] at this
  exact this.symm
theorem RlI.step {L : List (List UInt8)} {i c : Nat} {hs ns : List Int} (h : RlI L i c hs) (hw : splB 32 (L.getD i []) [] = ns.map itoa) (hn : ∀ x ∈ ns, nOk x) (hc : ns.length = c) : RlI L (i + 1) c (hs ++ ns) := by
  refine ⟨by rw [List.length_append, h.n, hc, Nat.add_mul, Nat.one_mul], fun x hx => ?_, fun j hj => ?_, fun _ => ?_⟩
  · rcases List.mem_append.1 hx with hx | hx
    · exact h.k x hx
    · exact hn x hx
  · by_cases e : j < i
    · rw [rwL_app_l h.n e]; exact h.g j e
    · rw [show j = i by omega, rwL_app_r h.n hc]
      exact lnB_back hw
  · rcases Nat.eq_zero_or_pos i with e | e
    · rw [e] at hw
      rw [hw, List.length_map, hc]
    · exact h.c e
theorem rl_text {t : List UInt8} {L : List (List UInt8)} (hL : splB 10 t [] = L) {n c : Nat} {hs : List Int} (h : RlI L n c hs) (hn : L.length = n + 1) (he : L.getD n [] = []) : lnE (lnsL n c hs) = t := by
  have hj := joB_splB 10 t []
  rw [List.nil_append, hL] at hj
  rw [← hj, ← lnE_joB]
  congr 1
  refine List.ext_getElem (by simp [lnsL_len, hn]) fun j h1 h2 => ?_
  by_cases e : j < n
  · have hg := h.g j e
    rw [List.getD_eq_getElem?_getD, List.getElem?_eq_getElem h2, Option.getD_some] at hg
    rw [List.getElem_append_left (by rw [lnsL_len]; exact e), hg]
    simp [lnsL]
  · have ej : j = n := by omega
    subst ej
    rw [List.getD_eq_getElem?_getD, List.getElem?_eq_getElem h2, Option.getD_some] at he
    rw [List.getElem_append_right (by rw [lnsL_len]; exact Nat.le_refl _), he]
    simp
theorem rl_end {t : List UInt8} {L : List (List UInt8)} (hL : splB 10 t [] = L) {n c : Nat} {hs : List Int} (h : RlI L n c hs) (hn : L.length = n + 1) (he : L.getD n [] = []) (hp : 1 ≤ n) :
    (okL ⟨n, c, hs⟩ = true → rlO t = some ⟨n, c, hs⟩) ∧ (okL ⟨n, c, hs⟩ = false → rlO t = none) := by
  have et := rl_text hL h hn he
  have eo : ldT ⟨n, c, hs⟩ = t := by rw [← et]; rfl
  refine ⟨fun hk => (rlO_iff t _).2 ⟨hk, eo⟩, fun hk => rlO_none fun l Q e => ?_⟩
  have P := rl_parts Q e
  rw [hL] at P
  have hr : n = l.rows.toNat := by have := P.n; omega
  have hc : c = l.cols.toNat := by
    obtain ⟨p1, p2⟩ := P.r 0 (by omega)
    rw [h.c (by omega), p1, List.length_map, p2]
  have hh : hs = l.hs := by
    have n1 := lnT_nums h.n h.k
    rw [et, ← e, ldT_nums Q] at n1
    exact n1.symm
  have hlr := Q.r
  have hlc := Q.c
  have : (⟨n, c, hs⟩ : Ld) = l := by
    cases l
    simp only at hr hc hh hlr hlc
    rw [hh, Ld.mk.injEq]
    exact ⟨by omega, by omega, rfl⟩
  rw [this, (okL_iff l).2 Q] at hk
  cases hk
theorem rl_head {t : List UInt8} {L : List (List UInt8)} (hL : splB 10 t [] = L) (h : L.getD (L.length - 1) [] ≠ [] ∨ L.length - 1 < 1 ∨ 12 < L.length - 1) : rlO t = none := rlO_none fun l Q e => by
  have P := rl_parts Q e
  rw [hL] at P
  have hn := P.n
  have hr := Q.r
  rcases h with h | h | h
  · rw [show L.length - 1 = l.rows.toNat by omega] at h
    exact h P.e
  · omega
  · omega
theorem rl_cols {t : List UInt8} {L : List (List UInt8)} (hL : splB 10 t [] = L) {i c : Nat} {hs : List Int} (h : RlI L i c hs) (hp : 0 < i) (hi : i + 1 < L.length) (hw : (splB 32 (L.getD i []) []).length ≠ c) : rlO t = none := rlO_none fun l Q e => by
  have P := rl_parts Q e
  rw [hL] at P
  have hn := P.n
  obtain ⟨p1, p2⟩ := P.r 0 (by omega)
  obtain ⟨q1, q2⟩ := P.r i (by omega)
  have hc := h.c hp
  rw [p1, List.length_map, p2] at hc
  rw [q1, List.length_map, q2] at hw
  exact hw hc.symm
theorem rl_num {t : List UInt8} {L : List (List UInt8)} (hL : splB 10 t [] = L) {i : Nat} (hi : i + 1 < L.length) {w : List UInt8} (hw : w ∈ splB 32 (L.getD i []) []) (hd : rdD w = none) : rlO t = none := rlO_none fun l Q e => by
  have P := rl_parts Q e
  rw [hL] at P
  have hn := P.n
  obtain ⟨q1, q2⟩ := P.r i (by omega)
  rw [q1, List.mem_map] at hw
  obtain ⟨x, hx, rfl⟩ := hw
  rw [rdD_itoa x (Q.nok x (rwL_mem hx))] at hd
  cases hd
/-- the lines that a text is made of -/
theorem spl_mlen (b : UInt8) (l : List UInt8) : ∀ x ∈ splB b l [], x.length ≤ l.length := by
  have key : ∀ (l cur : List UInt8), ∀ x ∈ splB b l cur, x.length ≤ cur.length + l.length := by
    intro l
    induction l with
    | nil => intro cur; simp [splB]
    | cons c r ih =>
      intro cur
      simp only [splB]
      split
      · intro x hx
        rcases List.mem_cons.1 hx with rfl | hx
        · omega
        · have := ih [] x hx; simp at this ⊢; omega
      · intro x hx; have := ih (cur ++ [c]) x hx; simp at this ⊢; omega
  intro x hx
  have := key l [] x hx
  simpa using this
theorem getD_mem' (L : List (List UInt8)) (i : Nat) (h : i < L.length) : L.getD i [] ∈ L := by
  rw [List.getD_eq_getElem?_getD, List.getElem?_eq_getElem h, Option.getD_some]
  exact List.getElem_mem h
theorem gs_map (L : List (List UInt8)) (i : Nat) (h : i < L.length) : gs (L.map tx) i = tx (L.getD i []) := by
  simp [gs, List.getD_eq_getElem?_getD, h]
end Go.Proofs.YtfhckmlmfigfjaaGreatDoor

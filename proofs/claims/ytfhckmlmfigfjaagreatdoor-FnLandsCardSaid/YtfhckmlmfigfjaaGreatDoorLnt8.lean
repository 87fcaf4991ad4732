/- lands: texts read by the model: the walk -/
import Derived.Test.YtfhckmlmfigfjaaGreatDoorLnt7
set_option linter.unusedVariables false
set_option linter.unusedSimpArgs false
namespace Go.Proofs.YtfhckmlmfigfjaaGreatDoor
open Go.AG Go.Lib

attribute [local go_sem] beq_self_eq_true bne_self_eq_false Bool.not_true Bool.not_false
@[local go_sem] theorem mk_txL8 (l : List UInt8) : ByteArray.mk (List.toArray l) = tx l := rfl
structure BoxL8 (G : Prop) : Prop where
  out : G
theorem joinL8 {G H : Prop} (h : BoxL8 G → H) (g : G) : H := h ⟨g⟩
theorem rdR_E8 (o : Option Int) : rdR o = .tup [I (o.getD 0), B o.isSome] := by cases o <;> rfl
theorem l01Num8_ok (l : List UInt8) (hl : l.length ≤ 100000) : ACalls Tryz.prog 121 [St (tx l)] [] (fun r o => r = .tup [I ((rdD l).getD 0), B (rdD l).isSome] ∧ o = []) := by
  have h := l01Number_ok l hl
  rw [rdR_E8] at h
  exact h
/-- a land that is read, or none -/
def RlQ (o : Option Ld) (r : V) (ob : Objs) : Prop := (match o with
  | some l => r = .tup [.agg (lC l), B true]
  | none => r = .tup [.agg [I 0, I 0, nilS], B false]) ∧ ob = []
theorem RlQ.fz {f : FuncId} {args : List V} {o : Option Ld} (hc : ACalls Tryz.prog f args [] (RlQ o)) : ACalls Tryz.prog f args [] (fun r ob => r = .tup [.agg (lC (rlL o)), B o.isSome] ∧ ob = []) := by
  cases o with
  | some l =>
    refine hc.mono ?_
    rintro r ob ⟨h1, h2⟩
    exact ⟨h1, h2⟩
  | none =>
    refine hc.leD ?_
    rintro r ob ⟨h1, rfl⟩
    simp only at h1
    subst h1
    exact ⟨_, LeD.tup' (leD_cons (LeD.agg' (leD_same _ (leD_same _ (leD_nilS leD_nil)))) (leD_same _ leD_nil)), rfl, rfl⟩
set_option maxRecDepth 20000 in
set_option maxHeartbeats 8000000 in
theorem readLandS_ok (t : List UInt8) (hl : t.length ≤ 10000) : ACalls Tryz.prog 48 [St (tx t)] [] (RlQ (rlO t)) := by
  refine ACalls.of_vc Tryz.func48 rfl (by decide) 82 rfl [.cell 2 50, .tmp 3] rfl (by simp) ?_
  have hsp := l01Split_ok t 10 (by omega)
  rw [show ((10 : UInt8).toNat : Int) = 10 from rfl] at hsp
  have hsl := splB_len 10 t []
  have hne := splB_ne 10 t []
  have hml := spl_mlen 10 t
  obtain ⟨L, hL⟩ : ∃ L, splB 10 t [] = L := ⟨_, rfl⟩
  have head := rl_head hL
  have cols := @rl_cols t L hL
  have num := @rl_num t L hL
  have fin := @rl_end t L hL
  rw [hL] at hsp hsl hne hml
  clear hL
  have hLp : 1 ≤ L.length := by
    cases L with
    | nil => exact absurd rfl hne
    | cons a b => simp
  have hmap : (L.map tx).length = L.length := by simp
  have hgs := fun i hi => gs_map L i hi
  obtain ⟨n, hn⟩ : ∃ n, n = L.length - 1 := ⟨_, rfl⟩
  have hz : ((L.length : Int) - 1) = (n : Int) := by omega
  have hgn := hgs n (by omega)
  rw [← hn] at head
  (repeat (first | simp (maxSteps := 2000000) (disch := omega) only [go_sem, ↓reduceIte] | with_reducible refine vIf_t ?_ | with_reducible refine vIf_f ?_))
  (refine vCallX_of ?_; (repeat (first | simp (maxSteps := 2000000) (disch := omega) only [go_sem, ↓reduceIte] | with_reducible refine vIf_t ?_ | with_reducible refine vIf_f ?_)); refine vCall_eq (hsp) (by simp (disch := omega) only [go_sem]) rfl (by first | exact Or.inl rfl | exact Or.inr ⟨rfl, rfl⟩ | (apply Or.inr; simp only [go_sem])) ?_; (repeat (first | simp (maxSteps := 2000000) (disch := omega) only [go_sem, ↓reduceIte] | with_reducible refine vIf_t ?_ | with_reducible refine vIf_f ?_)))
  (try (repeat (first | simp (maxSteps := 2000000) (disch := omega) only [go_sem, ↓reduceIte, hz, hgn] | with_reducible refine vIf_t ?_ | with_reducible refine vIf_f ?_)))
  by_cases hlast : L.getD n [] = []
  case neg =>
    have nb := tx_bq hlast
    rw [head (.inl hlast)]
    unfold RlQ
    (try (repeat (first | simp (maxSteps := 2000000) (disch := omega) only [go_sem, ↓reduceIte, nb] | with_reducible refine vIf_t ?_ | with_reducible refine vIf_f ?_)))
    (refine retK_of ?_; (repeat (first | simp (maxSteps := 2000000) (disch := omega) only [go_sem, ↓reduceIte] | with_reducible refine vIf_t ?_ | with_reducible refine vIf_f ?_)))
    try rfl
  rw [hlast]
  by_cases h1 : n < 1
  · rw [head (.inr (.inl h1))]
    have d1 : decide ((n : Int) < 1) = true := decide_eq_true (by omega)
    unfold RlQ
    (try (repeat (first | simp (maxSteps := 2000000) (disch := omega) only [go_sem, ↓reduceIte, d1] | with_reducible refine vIf_t ?_ | with_reducible refine vIf_f ?_)))
    (refine retK_of ?_; (repeat (first | simp (maxSteps := 2000000) (disch := omega) only [go_sem, ↓reduceIte] | with_reducible refine vIf_t ?_ | with_reducible refine vIf_f ?_)))
    try rfl
  have d1 : decide ((n : Int) < 1) = false := decide_eq_false (by omega)
  by_cases h12 : 12 < n
  · rw [head (.inr (.inr h12))]
    have d2 : decide (12 < (n : Int)) = true := decide_eq_true (by omega)
    unfold RlQ
    (try (repeat (first | simp (maxSteps := 2000000) (disch := omega) only [go_sem, ↓reduceIte, d1, d2] | with_reducible refine vIf_t ?_ | with_reducible refine vIf_f ?_)))
    (refine retK_of ?_; (repeat (first | simp (maxSteps := 2000000) (disch := omega) only [go_sem, ↓reduceIte] | with_reducible refine vIf_t ?_ | with_reducible refine vIf_f ?_)))
    try rfl
  have d2 : decide (12 < (n : Int)) = false := decide_eq_false (by omega)
  (try (repeat (first | simp (maxSteps := 2000000) (disch := omega) only [go_sem, ↓reduceIte, d1, d2] | with_reducible refine vIf_t ?_ | with_reducible refine vIf_f ?_)))
  have hb1 : n < L.length := by omega
  have bnd : ∀ i, i < L.length → (splB 32 (L.getD i []) []).length ≤ 10001 := fun i hi => by
    have h1 := splB_len 32 (L.getD i []) []
    have h2 := hml _ (getD_mem' L i hi)
    omega
  refine vcLoop_invF (fun x : Nat × Int × List Int => x.1 ≤ n ∧ ((x.1 = 0 ∧ x.2.1 = 0 ∧ x.2.2 = []) ∨ (0 < x.1 ∧ ∃ c : Nat, x.2.1 = c ∧ RlI L x.1 c x.2.2 ∧ c ≤ 10001)))
    (fun x => ⟨82, 0, [(7, I x.1), (2, .ptr 0 0), (4, .ref 1 0 L.length), (6, .ptr 2 0), (5, I n)], [some ⟨3, [I 0, I 0, nilS]⟩, some ⟨1, strs (L.map tx)⟩, some ⟨3, [I n, I x.2.1, .ref 3 0 x.2.2.length]⟩, oI x.2.2]⟩) (fun x => n - x.1) (0, 0, []) ⟨by simp, .inl ⟨rfl, rfl, rfl⟩⟩ (by (first | (refine leF_s ?_; ((repeat (first | simp (maxSteps := 2000000) (disch := omega) only [go_sem, ↓reduceIte] | with_reducible refine vIf_t ?_ | with_reducible refine vIf_f ?_)); all_goals (try simp); all_goals (try omega)); done) | (refine leF_p ?_; ((repeat (first | simp (maxSteps := 2000000) (disch := omega) only [go_sem, ↓reduceIte] | with_reducible refine vIf_t ?_ | with_reducible refine vIf_f ?_)); all_goals (try simp); all_goals (try omega)); done))) ?_
  rintro ⟨i, cc, hs⟩ ⟨hi, hcase⟩
  simp only at hi hcase
  have hlen : hs.length ≤ 120012 := by
    rcases hcase with ⟨_, _, rfl⟩ | ⟨_, c, _, R, hc⟩
    · simp
    · rw [R.n]
      have : i * c ≤ 12 * 10001 := Nat.mul_le_mul (by omega) hc
      omega
  (repeat (first | simp (maxSteps := 2000000) (disch := omega) only [go_sem, ↓reduceIte] | with_reducible refine vIf_t ?_ | with_reducible refine vIf_f ?_))
  refine vIf_dec (fun h => ?_) (fun h => ?_)
  · have hin : i < n := by omega
    have hgi := hgs i (by omega)
    have hwl := hml _ (getD_mem' L i (by omega))
    have hsw := l01Split_ok (L.getD i []) 32 (by omega)
    rw [show ((32 : UInt8).toNat : Int) = 32 from rfl] at hsw
    have hwb := bnd i (by omega)
    have hwm := spl_mlen 32 (L.getD i [])
    have cols := fun {c : Nat} {hs : List Int} (R : RlI L i c hs) (hp : 0 < i) hw => cols R hp (by omega) hw
    have num := fun {w} (hw : w ∈ splB 32 (L.getD i []) []) hd => num (i := i) (by omega) hw hd
    have stp := fun {c : Nat} {ns : List Int} (R : RlI L i c hs) (hw : splB 32 (L.getD i []) [] = ns.map itoa) h1 h2 => R.step hw h1 h2
    generalize splB 32 (L.getD i []) [] = W at *
    have hwmap : (W.map tx).length = W.length := by simp
    have hgw := fun k hk => gs_map W k hk
    (repeat (first | simp (maxSteps := 2000000) (disch := omega) only [go_sem, ↓reduceIte, hgi] | with_reducible refine vIf_t ?_ | with_reducible refine vIf_f ?_))
    (refine vCallX_of ?_; (repeat (first | simp (maxSteps := 2000000) (disch := omega) only [go_sem, ↓reduceIte] | with_reducible refine vIf_t ?_ | with_reducible refine vIf_f ?_)); refine vCall_eq (hsw) (by simp (disch := omega) only [go_sem]) rfl (by first | exact Or.inl rfl | exact Or.inr ⟨rfl, rfl⟩ | (apply Or.inr; simp only [go_sem])) ?_; (repeat (first | simp (maxSteps := 2000000) (disch := omega) only [go_sem, ↓reduceIte] | with_reducible refine vIf_t ?_ | with_reducible refine vIf_f ?_)))
    by_cases hbad : 0 < i ∧ (W.length : Int) ≠ cc
    · rcases hcase with ⟨e, _, _⟩ | ⟨hp, c, e, R, hc⟩
      · omega
      · have e0 : ((i : Int) == 0) = false := by simp; omega
        have e1 : ((W.length : Int) != cc) = true := by simpa using hbad.2
        rw [cols R hp (by omega)]
        unfold RlQ
        (repeat (first | simp (maxSteps := 2000000) (disch := omega) only [go_sem, ↓reduceIte, e0] | with_reducible refine vIf_t ?_ | with_reducible refine vIf_f ?_))
        (try (repeat (first | simp (maxSteps := 2000000) (disch := omega) only [go_sem, ↓reduceIte, e0, e1] | with_reducible refine vIf_t ?_ | with_reducible refine vIf_f ?_)))
        (refine retK_of ?_; (repeat (first | simp (maxSteps := 2000000) (disch := omega) only [go_sem, ↓reduceIte] | with_reducible refine vIf_t ?_ | with_reducible refine vIf_f ?_)))
        try rfl
    have hRl : RlI L i W.length hs := by
      rcases hcase with ⟨e, _, rfl⟩ | ⟨hp, c, e, R, hc⟩
      · rw [e]; exact RlI.zero L _
      · have : c = W.length := by omega
        rw [← this]; exact R
    apply joinL8
    · intro common
      rcases hcase with ⟨e, e2, e3⟩ | ⟨hp, c, e, R, hc⟩
      · have e0 : ((i : Int) == 0) = true := by simp; omega
        (repeat (first | simp (maxSteps := 2000000) (disch := omega) only [go_sem, ↓reduceIte, e0] | with_reducible refine vIf_t ?_ | with_reducible refine vIf_f ?_))
        (try (repeat (first | simp (maxSteps := 2000000) (disch := omega) only [go_sem, ↓reduceIte, e0] | with_reducible refine vIf_t ?_ | with_reducible refine vIf_f ?_)))
        refine vcLoop_invF (fun x : Nat × List Int => x.1 ≤ W.length ∧ x.2.length = x.1 ∧ W.take x.1 = x.2.map itoa ∧ ∀ y ∈ x.2, nOk y)
          (fun x => ⟨82, 0, [(9, I x.1), (7, I i), (2, .ptr 0 0), (4, .ref 1 0 L.length), (6, .ptr 2 0), (8, .ref 3 0 W.length), (5, I n)], [some ⟨3, [I 0, I 0, nilS]⟩, some ⟨1, strs (L.map tx)⟩, some ⟨3, [I n, I W.length, .ref 4 0 (hs ++ x.2).length]⟩, some ⟨1, strs (W.map tx)⟩, oI (hs ++ x.2)]⟩) (fun x => W.length - x.1) (0, []) ⟨by simp, rfl, rfl, by simp⟩ (by (first | (refine leF_s ?_; ((repeat (first | simp (maxSteps := 2000000) (disch := omega) only [go_sem, ↓reduceIte] | with_reducible refine vIf_t ?_ | with_reducible refine vIf_f ?_)); all_goals (try simp); all_goals (try omega)); done) | (refine leF_p ?_; ((repeat (first | simp (maxSteps := 2000000) (disch := omega) only [go_sem, ↓reduceIte] | with_reducible refine vIf_t ?_ | with_reducible refine vIf_f ?_)); all_goals (try simp); all_goals (try omega)); done))) common.out
      · have e0 : ((i : Int) == 0) = false := by simp; omega
        have e1 : cc = (W.length : Int) := by omega
        subst e1
        (repeat (first | simp (maxSteps := 2000000) (disch := omega) only [go_sem, ↓reduceIte, e0] | with_reducible refine vIf_t ?_ | with_reducible refine vIf_f ?_))
        (try (repeat (first | simp (maxSteps := 2000000) (disch := omega) only [go_sem, ↓reduceIte, e0] | with_reducible refine vIf_t ?_ | with_reducible refine vIf_f ?_)))
        refine vcLoop_invF (fun x : Nat × List Int => x.1 ≤ W.length ∧ x.2.length = x.1 ∧ W.take x.1 = x.2.map itoa ∧ ∀ y ∈ x.2, nOk y)
          (fun x => ⟨82, 0, [(9, I x.1), (7, I i), (2, .ptr 0 0), (4, .ref 1 0 L.length), (6, .ptr 2 0), (8, .ref 3 0 W.length), (5, I n)], [some ⟨3, [I 0, I 0, nilS]⟩, some ⟨1, strs (L.map tx)⟩, some ⟨3, [I n, I W.length, .ref 4 0 (hs ++ x.2).length]⟩, some ⟨1, strs (W.map tx)⟩, oI (hs ++ x.2)]⟩) (fun x => W.length - x.1) (0, []) ⟨by simp, rfl, rfl, by simp⟩ (by (first | (refine leF_s ?_; ((repeat (first | simp (maxSteps := 2000000) (disch := omega) only [go_sem, ↓reduceIte] | with_reducible refine vIf_t ?_ | with_reducible refine vIf_f ?_)); all_goals (try simp); all_goals (try omega)); done) | (refine leF_p ?_; ((repeat (first | simp (maxSteps := 2000000) (disch := omega) only [go_sem, ↓reduceIte] | with_reducible refine vIf_t ?_ | with_reducible refine vIf_f ?_)); all_goals (try simp); all_goals (try omega)); done))) common.out
    · rintro ⟨k, ns⟩ ⟨hk, hn1, hn2, hn3⟩
      simp only at hk hn1 hn2 hn3 ⊢
      have hal : (hs ++ ns).length ≤ 200000 := by rw [List.length_append]; omega
      (repeat (first | simp (maxSteps := 2000000) (disch := omega) only [go_sem, ↓reduceIte] | with_reducible refine vIf_t ?_ | with_reducible refine vIf_f ?_))
      refine vIf_dec (fun h5 => ?_) (fun h5 => ?_)
      · have hkl : k < W.length := by omega
        have hgk := hgw k hkl
        have hmk := hwm _ (getD_mem' W k hkl)
        have hnum := l01Num8_ok (W.getD k []) (by omega)
        have hmm := getD_mem' W k hkl
        have htk : W.take (k + 1) = W.take k ++ [W.getD k []] := by
          rw [List.take_succ_eq_append_getElem hkl]
          simp [List.getD_eq_getElem?_getD, hkl]
        (repeat (first | simp (maxSteps := 2000000) (disch := omega) only [go_sem, ↓reduceIte, hgk] | with_reducible refine vIf_t ?_ | with_reducible refine vIf_f ?_))
        (refine vCallX_of ?_; (repeat (first | simp (maxSteps := 2000000) (disch := omega) only [go_sem, ↓reduceIte] | with_reducible refine vIf_t ?_ | with_reducible refine vIf_f ?_)); refine vCall_eq (hnum) (by simp (disch := omega) only [go_sem]) rfl (by first | exact Or.inl rfl | exact Or.inr ⟨rfl, rfl⟩ | (apply Or.inr; simp only [go_sem])) ?_; (repeat (first | simp (maxSteps := 2000000) (disch := omega) only [go_sem, ↓reduceIte] | with_reducible refine vIf_t ?_ | with_reducible refine vIf_f ?_)))
        cases r1 : rdD (W.getD k []) with
        | none =>
          rw [num hmm r1]
          unfold RlQ
          (try (repeat (first | simp (maxSteps := 2000000) (disch := omega) only [go_sem, ↓reduceIte, r1, Option.isSome_none] | with_reducible refine vIf_t ?_ | with_reducible refine vIf_f ?_)))
          (refine retK_of ?_; (repeat (first | simp (maxSteps := 2000000) (disch := omega) only [go_sem, ↓reduceIte] | with_reducible refine vIf_t ?_ | with_reducible refine vIf_f ?_)))
          try rfl
        | some a =>
          have ra := (rdD_iff _ _).1 r1
          (try (repeat (first | simp (maxSteps := 2000000) (disch := omega) only [go_sem, ↓reduceIte, r1, Option.isSome_some, Option.getD_some] | with_reducible refine vIf_t ?_ | with_reducible refine vIf_f ?_)))
          refine againF (k + 1, ns ++ [a]) ⟨by simp only; omega, by simp [hn1], ?_, ?_⟩ (by simp only; omega) ?_
          · simp only
            rw [htk, hn2, List.map_append, ← ra.1]
            rfl
          · simp only
            intro y hy
            rcases List.mem_append.1 hy with hy | hy
            · exact hn3 y hy
            · rw [List.mem_singleton.1 hy]; exact ra.2
          · simp only
            have tk : List.take (hs.length + ns.length) (hs ++ ns) = hs ++ ns := List.take_of_length_le (by simp)
            refine leF_p ?_
            (repeat (first | simp (maxSteps := 2000000) (disch := omega) only [go_sem, ↓reduceIte, tk] | with_reducible refine vIf_t ?_ | with_reducible refine vIf_f ?_))
            try simp
            try omega
      · have ek : k = W.length := by omega
        have hW : W = ns.map itoa := by rw [← hn2, ek, List.take_length]
        have R2 := stp hRl hW hn3 (by omega)
        (repeat (first | simp (maxSteps := 2000000) (disch := omega) only [go_sem, ↓reduceIte] | with_reducible refine vIf_t ?_ | with_reducible refine vIf_f ?_))
        refine againF (i + 1, (W.length : Int), hs ++ ns) ⟨by simp only; omega, .inr ⟨by simp only; omega, W.length, rfl, R2, hwb⟩⟩ (by simp only; omega) (by (first | (refine leF_s ?_; ((repeat (first | simp (maxSteps := 2000000) (disch := omega) only [go_sem, ↓reduceIte] | with_reducible refine vIf_t ?_ | with_reducible refine vIf_f ?_)); all_goals (try simp); all_goals (try omega)); done) | (refine leF_p ?_; ((repeat (first | simp (maxSteps := 2000000) (disch := omega) only [go_sem, ↓reduceIte] | with_reducible refine vIf_t ?_ | with_reducible refine vIf_f ?_)); all_goals (try simp); all_goals (try omega)); done)))
  · have ei : i = n := by omega
    subst ei
    rcases hcase with ⟨e, _⟩ | ⟨hp, c, e, R, hc⟩
    · omega
    subst e
    obtain ⟨F1, F2⟩ := fin R (by omega) hlast (by omega)
    have hv := l03Ok_ok ⟨i, c, hs⟩ (by simp only; omega)
    unfold lC at hv
    simp only at hv
    cases hk : okL ⟨i, c, hs⟩ with
    | true =>
      rw [F1 hk]
      rw [hk] at hv
      unfold RlQ lC
      (repeat (first | simp (maxSteps := 2000000) (disch := omega) only [go_sem, ↓reduceIte] | with_reducible refine vIf_t ?_ | with_reducible refine vIf_f ?_))
      (refine vCallX_fz 3 _ rfl (by (repeat (first | simp (maxSteps := 2000000) (disch := omega) only [go_sem, ↓reduceIte] | with_reducible refine vIf_t ?_ | with_reducible refine vIf_f ?_))) ?_; (repeat (first | simp (maxSteps := 2000000) (disch := omega) only [go_sem, ↓reduceIte] | with_reducible refine vIf_t ?_ | with_reducible refine vIf_f ?_)); refine vCallX_fz 2 _ rfl (by (repeat (first | simp (maxSteps := 2000000) (disch := omega) only [go_sem, ↓reduceIte] | with_reducible refine vIf_t ?_ | with_reducible refine vIf_f ?_))) ?_; (repeat (first | simp (maxSteps := 2000000) (disch := omega) only [go_sem, ↓reduceIte] | with_reducible refine vIf_t ?_ | with_reducible refine vIf_f ?_)))
      (refine vCallX_of ?_; (repeat (first | simp (maxSteps := 2000000) (disch := omega) only [go_sem, ↓reduceIte] | with_reducible refine vIf_t ?_ | with_reducible refine vIf_f ?_)); refine vCall_eq (hv) (by simp (disch := omega) only [go_sem]) rfl (by first | exact Or.inl rfl | exact Or.inr ⟨rfl, rfl⟩ | (apply Or.inr; simp only [go_sem])) ?_; (repeat (first | simp (maxSteps := 2000000) (disch := omega) only [go_sem, ↓reduceIte] | with_reducible refine vIf_t ?_ | with_reducible refine vIf_f ?_)))
      (refine retK_of ?_; (repeat (first | simp (maxSteps := 2000000) (disch := omega) only [go_sem, ↓reduceIte] | with_reducible refine vIf_t ?_ | with_reducible refine vIf_f ?_)))
      try rfl
    | false =>
      rw [F2 hk]
      rw [hk] at hv
      unfold RlQ
      (repeat (first | simp (maxSteps := 2000000) (disch := omega) only [go_sem, ↓reduceIte] | with_reducible refine vIf_t ?_ | with_reducible refine vIf_f ?_))
      (refine vCallX_fz 3 _ rfl (by (repeat (first | simp (maxSteps := 2000000) (disch := omega) only [go_sem, ↓reduceIte] | with_reducible refine vIf_t ?_ | with_reducible refine vIf_f ?_))) ?_; (repeat (first | simp (maxSteps := 2000000) (disch := omega) only [go_sem, ↓reduceIte] | with_reducible refine vIf_t ?_ | with_reducible refine vIf_f ?_)); refine vCallX_fz 2 _ rfl (by (repeat (first | simp (maxSteps := 2000000) (disch := omega) only [go_sem, ↓reduceIte] | with_reducible refine vIf_t ?_ | with_reducible refine vIf_f ?_))) ?_; (repeat (first | simp (maxSteps := 2000000) (disch := omega) only [go_sem, ↓reduceIte] | with_reducible refine vIf_t ?_ | with_reducible refine vIf_f ?_)))
      (refine vCallX_of ?_; (repeat (first | simp (maxSteps := 2000000) (disch := omega) only [go_sem, ↓reduceIte] | with_reducible refine vIf_t ?_ | with_reducible refine vIf_f ?_)); refine vCall_eq (hv) (by simp (disch := omega) only [go_sem]) rfl (by first | exact Or.inl rfl | exact Or.inr ⟨rfl, rfl⟩ | (apply Or.inr; simp only [go_sem])) ?_; (repeat (first | simp (maxSteps := 2000000) (disch := omega) only [go_sem, ↓reduceIte] | with_reducible refine vIf_t ?_ | with_reducible refine vIf_f ?_)))
      (refine retK_of ?_; (repeat (first | simp (maxSteps := 2000000) (disch := omega) only [go_sem, ↓reduceIte] | with_reducible refine vIf_t ?_ | with_reducible refine vIf_f ?_)))
      try rfl
end Go.Proofs.YtfhckmlmfigfjaaGreatDoor

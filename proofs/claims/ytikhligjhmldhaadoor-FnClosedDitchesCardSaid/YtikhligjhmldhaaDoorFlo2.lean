/- nets of ditches: what is reached, as a map; pushes; the greatest flow: walks -/
import Derived.Test.YtikhligjhmldhaaDoorFlo1
import Derived.Test.YtikhligjhmldhaaDoorIxs
set_option linter.unusedVariables false
set_option linter.unusedSimpArgs false
namespace Go.Proofs.YtikhligjhmldhaaDoor
open Go.AG Go.Lib

attribute [local go_sem] beq_self_eq_true bne_self_eq_false Bool.not_true Bool.not_false
theorem nd_len : ∀ (n : Nat) (L : List Int), L.Nodup → (∀ x ∈ L, 0 ≤ x ∧ x < (n : Int)) → L.length ≤ n
  | 0, L, _, h => by
    cases L with
    | nil => simp
    | cons x L => have := h x (by simp); omega
  | n + 1, L, hn, h => by
    by_cases hm : (n : Int) ∈ L
    · have ih := nd_len n (L.erase (n : Int)) (hn.erase _) (fun x hx => by
        rw [hn.mem_erase_iff] at hx
        have := h x hx.2
        omega)
      rw [List.length_erase_of_mem hm] at ih
      omega
    · have ih := nd_len n L hn (fun x hx => by
        have := h x hx
        have : x ≠ (n : Int) := fun e => hm (e ▸ hx)
        omega)
      omega
theorem Tre.len {n : Nt} (hn : NtF n) {F : List Int} {from_ : Int} {L K : List Int} (h : Tre n F from_ L K) : L.length ≤ 10 := by
  have := nd_len n.j.toNat L h.nd (fun x hx => by have := h.inn x hx; omega)
  have := hn.j
  omega
/-! the map -/
def mpN (L K : List Int) : List (Int × Value) := (L.zip K).map fun p => (p.1, .int .i64 p.2)
theorem mgetN_no : ∀ (L K : List Int) (v : Int), ¬ v ∈ L → mget (mpN L K) v = none
  | [], _, _, _ => rfl
  | _ :: _, [], _, _ => rfl
  | x :: L, y :: K, v, h => by
    simp only [mpN, List.zip_cons_cons, List.map_cons, mget]
    rw [if_neg (fun e => h (by simp [e]))]
    exact mgetN_no L K v (fun e => h (by simp [e]))
theorem mgetN_yes : ∀ (L K : List Int) (i : Nat), K.length = L.length → L.Nodup → i < L.length → mget (mpN L K) (gi L i) = some (.int .i64 (gi K i))
  | [], _, i, _, _, h => by simp at h
  | _ :: _, [], i, h, _, _ => by simp at h
  | x :: L, y :: K, 0, _, _, _ => by
    simp only [mpN, List.zip_cons_cons, List.map_cons, mget]
    rw [if_pos (show gi (x :: L) 0 = x from rfl)]; rfl
  | x :: L, y :: K, i + 1, h, hn, hi => by
    rw [List.nodup_cons] at hn
    simp only [List.length_cons] at h hi
    have e : gi (x :: L) (i + 1) = gi L i := rfl
    have e2 : gi (y :: K) (i + 1) = gi K i := rfl
    simp only [mpN, List.zip_cons_cons, List.map_cons, mget]
    rw [e, e2, if_neg (fun g => hn.1 (by rw [← g]; exact gi_mem L i (by omega)))]
    exact mgetN_yes L K i (by omega) hn.2 (by omega)
theorem mputN : ∀ (L K : List Int) (v x : Int), K.length = L.length → ¬ v ∈ L → mput (mpN L K) v (.int .i64 x) = mpN (L ++ [v]) (K ++ [x])
  | [], [], v, x, _, _ => rfl
  | [], _ :: _, _, _, h, _ => by simp at h
  | _ :: _, [], _, _, h, _ => by simp at h
  | a :: L, b :: K, v, x, h, hv => by
    simp only [mpN, List.zip_cons_cons, List.map_cons, mput, List.cons_append]
    rw [if_neg (fun e => hv (by simp [e]))]
    congr 1
    exact mputN L K v x (by simpa using h) (fun e => hv (by simp [e]))
abbrev mpO (L K : List Int) : Option Ob := some ⟨4294967291, mpI (mpN L K)⟩
def adO (L K : List Int) : Objs := [some ⟨1, [.mp 2]⟩, some ⟨1, [.ref 3 0 L.length]⟩, mpO L K, oI L]
structure Ext (n : Nt) (F : List Int) (from_ : Int) (L L' K' : List Int) (v : Int) : Prop where
  T : Tre n F from_ L' K'
  m : v ∈ L'
  l : L.length ≤ L'.length
  g : ∀ p, p < L.length → gi L' p = gi L p
theorem Ext.sub {n : Nt} {F : List Int} {from_ : Int} {L L' K' : List Int} {v : Int} (h : Ext n F from_ L L' K' v) {x : Int} (hx : x ∈ L) : x ∈ L' := by
  obtain ⟨i, hi, e⟩ := List.mem_iff_getElem.1 hx
  have hl := h.l
  have := h.g i hi
  rw [← e, ← gi_lt _ _ hi, ← this]
  exact gi_mem _ _ (by omega)
set_option maxHeartbeats 4000000 in
theorem add_e {n : Nt} (hn : NtF n) {F : List Int} {from_ : Int} {L K : List Int} (h : Tre n F from_ L K) (k : Nat) (hk : k < n.ds.length) (u v : Int) (hu : u ∈ L) (hv : 0 ≤ v ∧ v < n.j) (hr : Rsd (gDt n.ds k) (gi F k) u v) :
    ACallsM Tryd.prog 41 [I v, I k, .ptr 0 0, .ptr 1 0] 2 (adO L K) (fun r o => ∃ L' K', r = .tup [] ∧ o = adO L' K' ∧ Ext n F from_ L L' K' v) := by
  have hl := h.len hn
  unfold adO
  by_cases hm : v ∈ L
  · obtain ⟨i, hi, e⟩ := List.mem_iff_getElem.1 hm
    rw [← gi_lt _ _ hi] at e
    have hg := mgetN_yes L K i h.ln h.nd hi
    rw [e] at hg
    refine ACallsM.of_vc Tryd.func41 rfl (by decide) 23 rfl [] rfl (by simp) (by simp) ?_
    (repeat (first | simp (maxSteps := 2000000) (disch := omega) only [go_sem, ↓reduceIte, Nat.reduceEqDiff, Nat.reduceAdd, Nat.reduceMul, Nat.reduceSub, Int.reduceToNat, Int.reduceAdd, Int.reduceSub, Int.reduceMul, Int.reduceNeg, hg, Option.isSome_some, Option.getD_some] | with_reducible refine vIf_t ?_ | with_reducible refine vIf_f ?_))
    (refine retK_of ?_; (repeat (first | simp (maxSteps := 2000000) (disch := omega) only [go_sem, ↓reduceIte, Nat.reduceEqDiff, Nat.reduceAdd, Nat.reduceMul, Nat.reduceSub, Int.reduceToNat, Int.reduceAdd, Int.reduceSub, Int.reduceMul, Int.reduceNeg] | with_reducible refine vIf_t ?_ | with_reducible refine vIf_f ?_)))
    exact ⟨L, K, rfl, ⟨h, hm, Nat.le_refl _, fun _ _ => rfl⟩⟩
  · have hg := mgetN_no L K v hm
    have hp := mputN L K v k h.ln hm
    refine ACallsM.of_vc Tryd.func41 rfl (by decide) 23 rfl [] rfl (by simp) (by simp) ?_
    (repeat (first | simp (maxSteps := 2000000) (disch := omega) only [go_sem, ↓reduceIte, Nat.reduceEqDiff, Nat.reduceAdd, Nat.reduceMul, Nat.reduceSub, Int.reduceToNat, Int.reduceAdd, Int.reduceSub, Int.reduceMul, Int.reduceNeg, hg, hp, Option.isSome_none, Option.getD_none] | with_reducible refine vIf_t ?_ | with_reducible refine vIf_f ?_))
    (refine retK_of ?_; (repeat (first | simp (maxSteps := 2000000) (disch := omega) only [go_sem, ↓reduceIte, Nat.reduceEqDiff, Nat.reduceAdd, Nat.reduceMul, Nat.reduceSub, Int.reduceToNat, Int.reduceAdd, Int.reduceSub, Int.reduceMul, Int.reduceNeg] | with_reducible refine vIf_t ?_ | with_reducible refine vIf_f ?_)))
    exact ⟨L ++ [v], K ++ [(k : Int)], by simp, ⟨h.add k hk u v hu hm hv hr, by simp, by simp, fun p hp => gi_append_left _ _ _ hp⟩⟩
theorem hasR_ok (L : List Int) (i : Nat) (hl : L.length ≤ 10000000) : ACalls Tryd.prog 43 [I i, .ip [.sl L.length (ints L)] 0] [] (fun r o => r = B (decide ((i : Int) ∈ L)) ∧ o = []) := by
  refine ACalls.of_vc Tryd.func43 rfl (by decide) 7 rfl [.tmp 3] rfl (by simp) ?_
  have h1 := hasI_ok L i hl
  unfold iS at h1
  (repeat (first | simp (maxSteps := 2000000) (disch := omega) only [go_sem, ↓reduceIte, Nat.reduceEqDiff, Nat.reduceAdd, Nat.reduceMul, Nat.reduceSub, Int.reduceToNat, Int.reduceAdd, Int.reduceSub, Int.reduceMul, Int.reduceNeg] | with_reducible refine vIf_t ?_ | with_reducible refine vIf_f ?_))
  (refine vCallX_of ?_; (repeat (first | simp (maxSteps := 2000000) (disch := omega) only [go_sem, ↓reduceIte, Nat.reduceEqDiff, Nat.reduceAdd, Nat.reduceMul, Nat.reduceSub, Int.reduceToNat, Int.reduceAdd, Int.reduceSub, Int.reduceMul, Int.reduceNeg] | with_reducible refine vIf_t ?_ | with_reducible refine vIf_f ?_)); refine vCall_eq (h1) (by simp (disch := omega) only [go_sem, Nat.reduceAdd]) rfl (by first | exact Or.inl rfl | exact Or.inr ⟨rfl, rfl⟩ | (apply Or.inr; simp only [go_sem])) ?_; (repeat (first | simp (maxSteps := 2000000) (disch := omega) only [go_sem, ↓reduceIte, Nat.reduceEqDiff, Nat.reduceAdd, Nat.reduceMul, Nat.reduceSub, Int.reduceToNat, Int.reduceAdd, Int.reduceSub, Int.reduceMul, Int.reduceNeg] | with_reducible refine vIf_t ?_ | with_reducible refine vIf_f ?_)))
  (refine retK_of ?_; (repeat (first | simp (maxSteps := 2000000) (disch := omega) only [go_sem, ↓reduceIte, Nat.reduceEqDiff, Nat.reduceAdd, Nat.reduceMul, Nat.reduceSub, Int.reduceToNat, Int.reduceAdd, Int.reduceSub, Int.reduceMul, Int.reduceNeg] | with_reducible refine vIf_t ?_ | with_reducible refine vIf_f ?_)))
def Dn (n : Nt) (F L : List Int) (u : Int) (k : Nat) : Prop := ∀ k', k' < k → ∀ v, Rsd (gDt n.ds k') (gi F k') u v → v ∈ L
theorem mpN_1 (a b : Int) : mpN [a] [b] = [(a, .int .i64 b)] := _root_.id rfl
attribute [local go_sem] adO mpN_1
theorem mput_1 (k : Int) (v : Value) : mput [] k v = [(k, v)] := rfl
set_option maxHeartbeats 4000000 in
theorem reached_e {n : Nt} (hn : NtF n) {from_ : Int} (hfr : 1 ≤ from_ ∧ from_ < n.j) {F : List Int} (hlen : F.length = n.ds.length) :
    ACalls Tryd.prog 36 [.agg (nC n), I from_, .ref 0 0 F.length] [oI F] (fun r o => ∃ L K S, r = .tup [.ref 1 0 (S : List Int).length, .mp 2] ∧ o = [oI F, oI S, mpO L K] ∧ Tre n F from_ L K ∧ ∀ p, p < L.length → Dn n F L (gi L p) n.ds.length) := by
  refine ACalls.of_vc Tryd.func36 rfl (by decide) 80 rfl [.tmp 6, .tmp 7] rfl (by simp) ?_
  have hl := hn.l
  have hj := hn.j
  unfold nC
  (repeat (first | simp (maxSteps := 2000000) (disch := omega) only [go_sem, ↓reduceIte, Nat.reduceEqDiff, Nat.reduceAdd, Nat.reduceMul, Nat.reduceSub, Int.reduceToNat, Int.reduceAdd, Int.reduceSub, Int.reduceMul, Int.reduceNeg, mput_1] | with_reducible refine vIf_t ?_ | with_reducible refine vIf_f ?_))
  refine vcLoop_invF (fun x : List Int × List Int × Nat => Tre n F from_ x.1 x.2.1 ∧ x.2.2 ≤ x.1.length ∧ ∀ p, p < x.2.2 → Dn n F x.1 (gi x.1 p) n.ds.length) (fun x => ⟨80, 1, [(10, .fn 41 [.ptr 1 0, .ptr 2 0]), (2, .ref 0 0 F.length), (11, I x.2.2), (8, .ptr 2 0), (3, .ptr 3 0), (9, .ptr 1 0)], [oI F, some ⟨1, [.mp 4]⟩, some ⟨1, [.ref 5 0 x.1.length]⟩, some ⟨2, [I n.j, .sl n.ds.length (cDt n.ds)]⟩, mpO x.1 x.2.1, oI x.1]⟩) (fun x => 10 - x.2.2) ([from_], [-1], 0) ⟨Tre.zero (by omega), by simp, fun p hp => absurd hp (by simp)⟩ (by (first | (refine leF_s ?_; ((repeat (first | simp (maxSteps := 2000000) (disch := omega) only [go_sem, ↓reduceIte, Nat.reduceEqDiff, Nat.reduceAdd, Nat.reduceMul, Nat.reduceSub, Int.reduceToNat, Int.reduceAdd, Int.reduceSub, Int.reduceMul, Int.reduceNeg] | with_reducible refine vIf_t ?_ | with_reducible refine vIf_f ?_)); all_goals (try simp); all_goals (try omega)); done) | (refine leF_p ?_; ((repeat (first | simp (maxSteps := 2000000) (disch := omega) only [go_sem, ↓reduceIte, Nat.reduceEqDiff, Nat.reduceAdd, Nat.reduceMul, Nat.reduceSub, Int.reduceToNat, Int.reduceAdd, Int.reduceSub, Int.reduceMul, Int.reduceNeg] | with_reducible refine vIf_t ?_ | with_reducible refine vIf_f ?_)); all_goals (try simp); all_goals (try omega)); done))) ?_
  rintro ⟨L, K, i⟩ ⟨hT, hi, hD⟩
  simp only at hT hi hD
  have h10 := hT.len hn
  (repeat (first | simp (maxSteps := 2000000) (disch := omega) only [go_sem, ↓reduceIte, Nat.reduceEqDiff, Nat.reduceAdd, Nat.reduceMul, Nat.reduceSub, Int.reduceToNat, Int.reduceAdd, Int.reduceSub, Int.reduceMul, Int.reduceNeg] | with_reducible refine vIf_t ?_ | with_reducible refine vIf_f ?_))
  refine vIf_dec (fun h5 => ?_) (fun h5 => ?_)
  · have hil : i < L.length := by omega
    (repeat (first | simp (maxSteps := 2000000) (disch := omega) only [go_sem, ↓reduceIte, Nat.reduceEqDiff, Nat.reduceAdd, Nat.reduceMul, Nat.reduceSub, Int.reduceToNat, Int.reduceAdd, Int.reduceSub, Int.reduceMul, Int.reduceNeg] | with_reducible refine vIf_t ?_ | with_reducible refine vIf_f ?_))
    refine vcLoop_invF (fun x : List Int × List Int × Nat => Tre n F from_ x.1 x.2.1 ∧ i < x.1.length ∧ (∀ p, p < i → Dn n F x.1 (gi x.1 p) n.ds.length) ∧ x.2.2 ≤ n.ds.length ∧ Dn n F x.1 (gi x.1 i) x.2.2) (fun x => ⟨80, 1, [(29, I x.2.2), (10, .fn 41 [.ptr 1 0, .ptr 2 0]), (2, .ref 0 0 F.length), (11, I i), (8, .ptr 2 0), (27, .sl n.ds.length (cDt n.ds)), (3, .ptr 3 0), (9, .ptr 1 0), (28, I n.ds.length)], [oI F, some ⟨1, [.mp 4]⟩, some ⟨1, [.ref 5 0 x.1.length]⟩, some ⟨2, [I n.j, .sl n.ds.length (cDt n.ds)]⟩, mpO x.1 x.2.1, oI x.1]⟩) (fun x => n.ds.length - x.2.2) (L, K, 0) ⟨hT, hil, hD, by simp, fun k' hk' => absurd hk' (by simp)⟩ (by (first | (refine leF_s ?_; ((repeat (first | simp (maxSteps := 2000000) (disch := omega) only [go_sem, ↓reduceIte, Nat.reduceEqDiff, Nat.reduceAdd, Nat.reduceMul, Nat.reduceSub, Int.reduceToNat, Int.reduceAdd, Int.reduceSub, Int.reduceMul, Int.reduceNeg] | with_reducible refine vIf_t ?_ | with_reducible refine vIf_f ?_)); all_goals (try simp); all_goals (try omega)); done) | (refine leF_p ?_; ((repeat (first | simp (maxSteps := 2000000) (disch := omega) only [go_sem, ↓reduceIte, Nat.reduceEqDiff, Nat.reduceAdd, Nat.reduceMul, Nat.reduceSub, Int.reduceToNat, Int.reduceAdd, Int.reduceSub, Int.reduceMul, Int.reduceNeg] | with_reducible refine vIf_t ?_ | with_reducible refine vIf_f ?_)); all_goals (try simp); all_goals (try omega)); done))) ?_
    clear hT hi hD h10 h5 hil
    rintro ⟨L, K, k⟩ ⟨hT, hil, hD, hk, hDk⟩
    simp only at hT hil hD hk hDk
    have h10 := hT.len hn
    (repeat (first | simp (maxSteps := 2000000) (disch := omega) only [go_sem, ↓reduceIte, Nat.reduceEqDiff, Nat.reduceAdd, Nat.reduceMul, Nat.reduceSub, Int.reduceToNat, Int.reduceAdd, Int.reduceSub, Int.reduceMul, Int.reduceNeg] | with_reducible refine vIf_t ?_ | with_reducible refine vIf_f ?_))
    refine vIf_dec (fun h6 => ?_) (fun h6 => ?_)
    · have hkl : k < n.ds.length := by omega
      have hd := hn.dt hkl
      have hda := hd.a
      have hdb := hd.b
      have hdn := hd.n
      have hu : gi L i ∈ L := gi_mem L i hil
      have nxt : ∀ L' K' v, Ext n F from_ L L' K' v → (∀ w, Rsd (gDt n.ds k) (gi F k) (gi L i) w → w ∈ L') → Tre n F from_ L' K' ∧ i < L'.length ∧ (∀ p, p < i → Dn n F L' (gi L' p) n.ds.length) ∧ k + 1 ≤ n.ds.length ∧ Dn n F L' (gi L' i) (k + 1) := by
        intro L' K' v hE hw
        have hll := hE.l
        refine ⟨hE.T, by omega, fun p hp k' hk' w hr => ?_, hkl, fun k' hk' w hr => ?_⟩
        · rw [hE.g p (by omega)] at hr
          exact hE.sub (hD p hp k' hk' w hr)
        · rw [hE.g i hil] at hr
          by_cases e : k' = k
          · subst e; exact hw w hr
          · exact hE.sub (hDk k' (by omega) w hr)
      by_cases cA : (gDt n.ds k).fr = gi L i ∧ gi F k < (gDt n.ds k).cp
      · have e1 : ((gDt n.ds k).fr == gi L i) = true := by simpa using cA.1
        have e2 : decide (gi F k < (gDt n.ds k).cp) = true := decide_eq_true cA.2
        (repeat (first | simp (maxSteps := 2000000) (disch := omega) only [go_sem, ↓reduceIte, Nat.reduceEqDiff, Nat.reduceAdd, Nat.reduceMul, Nat.reduceSub, Int.reduceToNat, Int.reduceAdd, Int.reduceSub, Int.reduceMul, Int.reduceNeg] | with_reducible refine vIf_t ?_ | with_reducible refine vIf_f ?_))
        (refine vDraw_sch 14 [(0, false), (3, false), (1, false), (2, true), (4, false), (5, true), (6, false), (7, false), (8, false), (9, false), (10, false), (11, false), (12, false), (13, false)] mixed (by kernel_rfl) ?_; simp only [List.cons_append, List.nil_append, List.map_cons, List.map_nil, nthO_zero, nthO_succ, List.drop_succ_cons, List.drop_zero, List.drop_nil]; (repeat (first | simp (maxSteps := 2000000) (disch := omega) only [go_sem, ↓reduceIte, Nat.reduceEqDiff, Nat.reduceAdd, Nat.reduceMul, Nat.reduceSub, Int.reduceToNat, Int.reduceAdd, Int.reduceSub, Int.reduceMul, Int.reduceNeg] | with_reducible refine vIf_t ?_ | with_reducible refine vIf_f ?_)))
        (try (repeat (first | simp (maxSteps := 2000000) (disch := omega) only [go_sem, ↓reduceIte, Nat.reduceEqDiff, Nat.reduceAdd, Nat.reduceMul, Nat.reduceSub, Int.reduceToNat, Int.reduceAdd, Int.reduceSub, Int.reduceMul, Int.reduceNeg, e1, e2] | with_reducible refine vIf_t ?_ | with_reducible refine vIf_f ?_)))
        (refine vCallX_m [1, 2] [4, 5] ?_; (repeat (first | simp (maxSteps := 2000000) (disch := omega) only [go_sem, ↓reduceIte, Nat.reduceEqDiff, Nat.reduceAdd, Nat.reduceMul, Nat.reduceSub, Int.reduceToNat, Int.reduceAdd, Int.reduceSub, Int.reduceMul, Int.reduceNeg] | with_reducible refine vIf_t ?_ | with_reducible refine vIf_f ?_)); refine vCallM_ex (add_e hn hT k hkl (gi L i) (gDt n.ds k).tw hu hdb (.inl ⟨cA.1, rfl, cA.2⟩)) rfl rfl (by simp (disch := omega) only [go_sem, Nat.reduceAdd, Nat.reduceEqDiff]) (by simp (disch := omega) only [go_sem, Nat.reduceAdd, Nat.reduceEqDiff]) (by first | rfl | (simp (disch := omega) only [go_sem, Nat.reduceAdd, Nat.reduceEqDiff])) (by first | rfl | (simp (disch := omega) only [go_sem, Nat.reduceAdd, Nat.reduceEqDiff])) (by first | rfl | (simp (disch := omega) only [go_sem, Nat.reduceAdd, Nat.reduceEqDiff])) ?_); rintro _ _ ⟨L', K', rfl, rfl, hE⟩ <;> (refine ⟨by first | (simp (disch := omega) only [go_sem, Nat.reduceAdd, Nat.reduceEqDiff]) | trivial, ?_⟩; (repeat (first | simp (maxSteps := 2000000) (disch := omega) only [go_sem, ↓reduceIte, Nat.reduceEqDiff, Nat.reduceAdd, Nat.reduceMul, Nat.reduceSub, Int.reduceToNat, Int.reduceAdd, Int.reduceSub, Int.reduceMul, Int.reduceNeg] | with_reducible refine vIf_t ?_ | with_reducible refine vIf_f ?_)))
        have hll := hE.l
        have h10' := hE.T.len hn
        have eg := hE.g i hil
        have e3 : ((gDt n.ds k).tw == gi L' i) = false := by rw [eg, beq_eq_false_iff_ne]; omega
        (refine vDraw_sch 10 [(0, false), (3, false), (1, false), (2, true), (4, false), (5, true), (6, false), (7, false), (8, false), (9, false)] mixed (by kernel_rfl) ?_; simp only [List.cons_append, List.nil_append, List.map_cons, List.map_nil, nthO_zero, nthO_succ, List.drop_succ_cons, List.drop_zero, List.drop_nil]; (repeat (first | simp (maxSteps := 2000000) (disch := omega) only [go_sem, ↓reduceIte, Nat.reduceEqDiff, Nat.reduceAdd, Nat.reduceMul, Nat.reduceSub, Int.reduceToNat, Int.reduceAdd, Int.reduceSub, Int.reduceMul, Int.reduceNeg] | with_reducible refine vIf_t ?_ | with_reducible refine vIf_f ?_)))
        (try (repeat (first | simp (maxSteps := 2000000) (disch := omega) only [go_sem, ↓reduceIte, Nat.reduceEqDiff, Nat.reduceAdd, Nat.reduceMul, Nat.reduceSub, Int.reduceToNat, Int.reduceAdd, Int.reduceSub, Int.reduceMul, Int.reduceNeg, e3] | with_reducible refine vIf_t ?_ | with_reducible refine vIf_f ?_)))
        refine againF ((L', K', k + 1)) ?_ ?_ (by (first | (refine leF_s ?_; ((repeat (first | simp (maxSteps := 2000000) (disch := omega) only [go_sem, ↓reduceIte, Nat.reduceEqDiff, Nat.reduceAdd, Nat.reduceMul, Nat.reduceSub, Int.reduceToNat, Int.reduceAdd, Int.reduceSub, Int.reduceMul, Int.reduceNeg] | with_reducible refine vIf_t ?_ | with_reducible refine vIf_f ?_)); all_goals (try simp); all_goals (try omega)); done) | (refine leF_p ?_; ((repeat (first | simp (maxSteps := 2000000) (disch := omega) only [go_sem, ↓reduceIte, Nat.reduceEqDiff, Nat.reduceAdd, Nat.reduceMul, Nat.reduceSub, Int.reduceToNat, Int.reduceAdd, Int.reduceSub, Int.reduceMul, Int.reduceNeg] | with_reducible refine vIf_t ?_ | with_reducible refine vIf_f ?_)); all_goals (try simp); all_goals (try omega)); done)))
        · exact nxt L' K' _ hE (fun w hr => by
            rcases hr with ⟨r1, r2, r3⟩ | ⟨r1, r2, r3⟩
            · rw [← r2]; exact hE.m
            · omega)
        · simp only; omega
      by_cases cB : (gDt n.ds k).tw = gi L i ∧ 0 < gi F k
      · have e1 : ((gDt n.ds k).fr == gi L i) = false := by rw [beq_eq_false_iff_ne]; omega
        have e3 : ((gDt n.ds k).tw == gi L i) = true := by simpa using cB.1
        have e4 : decide (0 < gi F k) = true := decide_eq_true cB.2
        (repeat (first | simp (maxSteps := 2000000) (disch := omega) only [go_sem, ↓reduceIte, Nat.reduceEqDiff, Nat.reduceAdd, Nat.reduceMul, Nat.reduceSub, Int.reduceToNat, Int.reduceAdd, Int.reduceSub, Int.reduceMul, Int.reduceNeg] | with_reducible refine vIf_t ?_ | with_reducible refine vIf_f ?_))
        (refine vDraw_sch 14 [(0, false), (3, false), (1, false), (2, true), (4, false), (5, true), (6, false), (7, false), (8, false), (9, false), (10, false), (11, false), (12, false), (13, false)] mixed (by kernel_rfl) ?_; simp only [List.cons_append, List.nil_append, List.map_cons, List.map_nil, nthO_zero, nthO_succ, List.drop_succ_cons, List.drop_zero, List.drop_nil]; (repeat (first | simp (maxSteps := 2000000) (disch := omega) only [go_sem, ↓reduceIte, Nat.reduceEqDiff, Nat.reduceAdd, Nat.reduceMul, Nat.reduceSub, Int.reduceToNat, Int.reduceAdd, Int.reduceSub, Int.reduceMul, Int.reduceNeg] | with_reducible refine vIf_t ?_ | with_reducible refine vIf_f ?_)))
        (try (repeat (first | simp (maxSteps := 2000000) (disch := omega) only [go_sem, ↓reduceIte, Nat.reduceEqDiff, Nat.reduceAdd, Nat.reduceMul, Nat.reduceSub, Int.reduceToNat, Int.reduceAdd, Int.reduceSub, Int.reduceMul, Int.reduceNeg, e1] | with_reducible refine vIf_t ?_ | with_reducible refine vIf_f ?_)))
        (refine vDraw_sch 10 [(0, false), (3, false), (1, false), (2, true), (4, false), (5, true), (6, false), (7, false), (8, false), (9, false)] mixed (by kernel_rfl) ?_; simp only [List.cons_append, List.nil_append, List.map_cons, List.map_nil, nthO_zero, nthO_succ, List.drop_succ_cons, List.drop_zero, List.drop_nil]; (repeat (first | simp (maxSteps := 2000000) (disch := omega) only [go_sem, ↓reduceIte, Nat.reduceEqDiff, Nat.reduceAdd, Nat.reduceMul, Nat.reduceSub, Int.reduceToNat, Int.reduceAdd, Int.reduceSub, Int.reduceMul, Int.reduceNeg] | with_reducible refine vIf_t ?_ | with_reducible refine vIf_f ?_)))
        (try (repeat (first | simp (maxSteps := 2000000) (disch := omega) only [go_sem, ↓reduceIte, Nat.reduceEqDiff, Nat.reduceAdd, Nat.reduceMul, Nat.reduceSub, Int.reduceToNat, Int.reduceAdd, Int.reduceSub, Int.reduceMul, Int.reduceNeg, e3, e4] | with_reducible refine vIf_t ?_ | with_reducible refine vIf_f ?_)))
        (refine vCallX_m [1, 2] [4, 5] ?_; (repeat (first | simp (maxSteps := 2000000) (disch := omega) only [go_sem, ↓reduceIte, Nat.reduceEqDiff, Nat.reduceAdd, Nat.reduceMul, Nat.reduceSub, Int.reduceToNat, Int.reduceAdd, Int.reduceSub, Int.reduceMul, Int.reduceNeg] | with_reducible refine vIf_t ?_ | with_reducible refine vIf_f ?_)); refine vCallM_ex (add_e hn hT k hkl (gi L i) (gDt n.ds k).fr hu hda (.inr ⟨cB.1, rfl, cB.2⟩)) rfl rfl (by simp (disch := omega) only [go_sem, Nat.reduceAdd, Nat.reduceEqDiff]) (by simp (disch := omega) only [go_sem, Nat.reduceAdd, Nat.reduceEqDiff]) (by first | rfl | (simp (disch := omega) only [go_sem, Nat.reduceAdd, Nat.reduceEqDiff])) (by first | rfl | (simp (disch := omega) only [go_sem, Nat.reduceAdd, Nat.reduceEqDiff])) (by first | rfl | (simp (disch := omega) only [go_sem, Nat.reduceAdd, Nat.reduceEqDiff])) ?_); rintro _ _ ⟨L', K', rfl, rfl, hE⟩ <;> (refine ⟨by first | (simp (disch := omega) only [go_sem, Nat.reduceAdd, Nat.reduceEqDiff]) | trivial, ?_⟩; (repeat (first | simp (maxSteps := 2000000) (disch := omega) only [go_sem, ↓reduceIte, Nat.reduceEqDiff, Nat.reduceAdd, Nat.reduceMul, Nat.reduceSub, Int.reduceToNat, Int.reduceAdd, Int.reduceSub, Int.reduceMul, Int.reduceNeg] | with_reducible refine vIf_t ?_ | with_reducible refine vIf_f ?_)))
        have hll := hE.l
        have h10' := hE.T.len hn
        refine againF ((L', K', k + 1)) ?_ ?_ (by (first | (refine leF_s ?_; ((repeat (first | simp (maxSteps := 2000000) (disch := omega) only [go_sem, ↓reduceIte, Nat.reduceEqDiff, Nat.reduceAdd, Nat.reduceMul, Nat.reduceSub, Int.reduceToNat, Int.reduceAdd, Int.reduceSub, Int.reduceMul, Int.reduceNeg] | with_reducible refine vIf_t ?_ | with_reducible refine vIf_f ?_)); all_goals (try simp); all_goals (try omega)); done) | (refine leF_p ?_; ((repeat (first | simp (maxSteps := 2000000) (disch := omega) only [go_sem, ↓reduceIte, Nat.reduceEqDiff, Nat.reduceAdd, Nat.reduceMul, Nat.reduceSub, Int.reduceToNat, Int.reduceAdd, Int.reduceSub, Int.reduceMul, Int.reduceNeg] | with_reducible refine vIf_t ?_ | with_reducible refine vIf_f ?_)); all_goals (try simp); all_goals (try omega)); done)))
        · exact nxt L' K' _ hE (fun w hr => by
            rcases hr with ⟨r1, r2, r3⟩ | ⟨r1, r2, r3⟩
            · omega
            · rw [← r2]; exact hE.m)
        · simp only; omega
      have hE : Ext n F from_ L L K (gi L i) := ⟨hT, hu, Nat.le_refl _, fun _ _ => rfl⟩
      have hno : ∀ w, Rsd (gDt n.ds k) (gi F k) (gi L i) w → w ∈ L := fun w hr => by
        rcases hr with ⟨r1, r2, r3⟩ | ⟨r1, r2, r3⟩
        · exact absurd ⟨r1, r3⟩ cA
        · exact absurd ⟨r1, r3⟩ cB
      by_cases c1 : (gDt n.ds k).fr = gi L i
      · have e1 : ((gDt n.ds k).fr == gi L i) = true := by simpa using c1
        have e2 : decide (gi F k < (gDt n.ds k).cp) = false := decide_eq_false (fun g => cA ⟨c1, g⟩)
        have e3 : ((gDt n.ds k).tw == gi L i) = false := by rw [beq_eq_false_iff_ne]; omega
        (repeat (first | simp (maxSteps := 2000000) (disch := omega) only [go_sem, ↓reduceIte, Nat.reduceEqDiff, Nat.reduceAdd, Nat.reduceMul, Nat.reduceSub, Int.reduceToNat, Int.reduceAdd, Int.reduceSub, Int.reduceMul, Int.reduceNeg] | with_reducible refine vIf_t ?_ | with_reducible refine vIf_f ?_))
        (refine vDraw_sch 14 [(0, false), (3, false), (1, false), (2, true), (4, false), (5, true), (6, false), (7, false), (8, false), (9, false), (10, false), (11, false), (12, false), (13, false)] mixed (by kernel_rfl) ?_; simp only [List.cons_append, List.nil_append, List.map_cons, List.map_nil, nthO_zero, nthO_succ, List.drop_succ_cons, List.drop_zero, List.drop_nil]; (repeat (first | simp (maxSteps := 2000000) (disch := omega) only [go_sem, ↓reduceIte, Nat.reduceEqDiff, Nat.reduceAdd, Nat.reduceMul, Nat.reduceSub, Int.reduceToNat, Int.reduceAdd, Int.reduceSub, Int.reduceMul, Int.reduceNeg] | with_reducible refine vIf_t ?_ | with_reducible refine vIf_f ?_)))
        (try (repeat (first | simp (maxSteps := 2000000) (disch := omega) only [go_sem, ↓reduceIte, Nat.reduceEqDiff, Nat.reduceAdd, Nat.reduceMul, Nat.reduceSub, Int.reduceToNat, Int.reduceAdd, Int.reduceSub, Int.reduceMul, Int.reduceNeg, e1, e2] | with_reducible refine vIf_t ?_ | with_reducible refine vIf_f ?_)))
        (refine vDraw_sch 10 [(0, false), (3, false), (1, false), (2, true), (4, false), (5, true), (6, false), (7, false), (8, false), (9, false)] mixed (by kernel_rfl) ?_; simp only [List.cons_append, List.nil_append, List.map_cons, List.map_nil, nthO_zero, nthO_succ, List.drop_succ_cons, List.drop_zero, List.drop_nil]; (repeat (first | simp (maxSteps := 2000000) (disch := omega) only [go_sem, ↓reduceIte, Nat.reduceEqDiff, Nat.reduceAdd, Nat.reduceMul, Nat.reduceSub, Int.reduceToNat, Int.reduceAdd, Int.reduceSub, Int.reduceMul, Int.reduceNeg] | with_reducible refine vIf_t ?_ | with_reducible refine vIf_f ?_)))
        (try (repeat (first | simp (maxSteps := 2000000) (disch := omega) only [go_sem, ↓reduceIte, Nat.reduceEqDiff, Nat.reduceAdd, Nat.reduceMul, Nat.reduceSub, Int.reduceToNat, Int.reduceAdd, Int.reduceSub, Int.reduceMul, Int.reduceNeg, e3] | with_reducible refine vIf_t ?_ | with_reducible refine vIf_f ?_)))
        refine againF ((L, K, k + 1)) ?_ ?_ (by (first | (refine leF_s ?_; ((repeat (first | simp (maxSteps := 2000000) (disch := omega) only [go_sem, ↓reduceIte, Nat.reduceEqDiff, Nat.reduceAdd, Nat.reduceMul, Nat.reduceSub, Int.reduceToNat, Int.reduceAdd, Int.reduceSub, Int.reduceMul, Int.reduceNeg] | with_reducible refine vIf_t ?_ | with_reducible refine vIf_f ?_)); all_goals (try simp); all_goals (try omega)); done) | (refine leF_p ?_; ((repeat (first | simp (maxSteps := 2000000) (disch := omega) only [go_sem, ↓reduceIte, Nat.reduceEqDiff, Nat.reduceAdd, Nat.reduceMul, Nat.reduceSub, Int.reduceToNat, Int.reduceAdd, Int.reduceSub, Int.reduceMul, Int.reduceNeg] | with_reducible refine vIf_t ?_ | with_reducible refine vIf_f ?_)); all_goals (try simp); all_goals (try omega)); done)))
        · exact nxt L K _ hE hno
        · simp only; omega
      have e1 : ((gDt n.ds k).fr == gi L i) = false := by rw [beq_eq_false_iff_ne]; omega
      by_cases c2 : (gDt n.ds k).tw = gi L i
      · have e3 : ((gDt n.ds k).tw == gi L i) = true := by simpa using c2
        have e4 : decide (0 < gi F k) = false := decide_eq_false (fun g => cB ⟨c2, g⟩)
        (repeat (first | simp (maxSteps := 2000000) (disch := omega) only [go_sem, ↓reduceIte, Nat.reduceEqDiff, Nat.reduceAdd, Nat.reduceMul, Nat.reduceSub, Int.reduceToNat, Int.reduceAdd, Int.reduceSub, Int.reduceMul, Int.reduceNeg] | with_reducible refine vIf_t ?_ | with_reducible refine vIf_f ?_))
        (refine vDraw_sch 14 [(0, false), (3, false), (1, false), (2, true), (4, false), (5, true), (6, false), (7, false), (8, false), (9, false), (10, false), (11, false), (12, false), (13, false)] mixed (by kernel_rfl) ?_; simp only [List.cons_append, List.nil_append, List.map_cons, List.map_nil, nthO_zero, nthO_succ, List.drop_succ_cons, List.drop_zero, List.drop_nil]; (repeat (first | simp (maxSteps := 2000000) (disch := omega) only [go_sem, ↓reduceIte, Nat.reduceEqDiff, Nat.reduceAdd, Nat.reduceMul, Nat.reduceSub, Int.reduceToNat, Int.reduceAdd, Int.reduceSub, Int.reduceMul, Int.reduceNeg] | with_reducible refine vIf_t ?_ | with_reducible refine vIf_f ?_)))
        (try (repeat (first | simp (maxSteps := 2000000) (disch := omega) only [go_sem, ↓reduceIte, Nat.reduceEqDiff, Nat.reduceAdd, Nat.reduceMul, Nat.reduceSub, Int.reduceToNat, Int.reduceAdd, Int.reduceSub, Int.reduceMul, Int.reduceNeg, e1] | with_reducible refine vIf_t ?_ | with_reducible refine vIf_f ?_)))
        (refine vDraw_sch 10 [(0, false), (3, false), (1, false), (2, true), (4, false), (5, true), (6, false), (7, false), (8, false), (9, false)] mixed (by kernel_rfl) ?_; simp only [List.cons_append, List.nil_append, List.map_cons, List.map_nil, nthO_zero, nthO_succ, List.drop_succ_cons, List.drop_zero, List.drop_nil]; (repeat (first | simp (maxSteps := 2000000) (disch := omega) only [go_sem, ↓reduceIte, Nat.reduceEqDiff, Nat.reduceAdd, Nat.reduceMul, Nat.reduceSub, Int.reduceToNat, Int.reduceAdd, Int.reduceSub, Int.reduceMul, Int.reduceNeg] | with_reducible refine vIf_t ?_ | with_reducible refine vIf_f ?_)))
        (try (repeat (first | simp (maxSteps := 2000000) (disch := omega) only [go_sem, ↓reduceIte, Nat.reduceEqDiff, Nat.reduceAdd, Nat.reduceMul, Nat.reduceSub, Int.reduceToNat, Int.reduceAdd, Int.reduceSub, Int.reduceMul, Int.reduceNeg, e3, e4] | with_reducible refine vIf_t ?_ | with_reducible refine vIf_f ?_)))
        refine againF ((L, K, k + 1)) ?_ ?_ (by (first | (refine leF_s ?_; ((repeat (first | simp (maxSteps := 2000000) (disch := omega) only [go_sem, ↓reduceIte, Nat.reduceEqDiff, Nat.reduceAdd, Nat.reduceMul, Nat.reduceSub, Int.reduceToNat, Int.reduceAdd, Int.reduceSub, Int.reduceMul, Int.reduceNeg] | with_reducible refine vIf_t ?_ | with_reducible refine vIf_f ?_)); all_goals (try simp); all_goals (try omega)); done) | (refine leF_p ?_; ((repeat (first | simp (maxSteps := 2000000) (disch := omega) only [go_sem, ↓reduceIte, Nat.reduceEqDiff, Nat.reduceAdd, Nat.reduceMul, Nat.reduceSub, Int.reduceToNat, Int.reduceAdd, Int.reduceSub, Int.reduceMul, Int.reduceNeg] | with_reducible refine vIf_t ?_ | with_reducible refine vIf_f ?_)); all_goals (try simp); all_goals (try omega)); done)))
        · exact nxt L K _ hE hno
        · simp only; omega
      · have e3 : ((gDt n.ds k).tw == gi L i) = false := by rw [beq_eq_false_iff_ne]; omega
        (repeat (first | simp (maxSteps := 2000000) (disch := omega) only [go_sem, ↓reduceIte, Nat.reduceEqDiff, Nat.reduceAdd, Nat.reduceMul, Nat.reduceSub, Int.reduceToNat, Int.reduceAdd, Int.reduceSub, Int.reduceMul, Int.reduceNeg] | with_reducible refine vIf_t ?_ | with_reducible refine vIf_f ?_))
        (refine vDraw_sch 14 [(0, false), (3, false), (1, false), (2, true), (4, false), (5, true), (6, false), (7, false), (8, false), (9, false), (10, false), (11, false), (12, false), (13, false)] mixed (by kernel_rfl) ?_; simp only [List.cons_append, List.nil_append, List.map_cons, List.map_nil, nthO_zero, nthO_succ, List.drop_succ_cons, List.drop_zero, List.drop_nil]; (repeat (first | simp (maxSteps := 2000000) (disch := omega) only [go_sem, ↓reduceIte, Nat.reduceEqDiff, Nat.reduceAdd, Nat.reduceMul, Nat.reduceSub, Int.reduceToNat, Int.reduceAdd, Int.reduceSub, Int.reduceMul, Int.reduceNeg] | with_reducible refine vIf_t ?_ | with_reducible refine vIf_f ?_)))
        (try (repeat (first | simp (maxSteps := 2000000) (disch := omega) only [go_sem, ↓reduceIte, Nat.reduceEqDiff, Nat.reduceAdd, Nat.reduceMul, Nat.reduceSub, Int.reduceToNat, Int.reduceAdd, Int.reduceSub, Int.reduceMul, Int.reduceNeg, e1] | with_reducible refine vIf_t ?_ | with_reducible refine vIf_f ?_)))
        (refine vDraw_sch 10 [(0, false), (3, false), (1, false), (2, true), (4, false), (5, true), (6, false), (7, false), (8, false), (9, false)] mixed (by kernel_rfl) ?_; simp only [List.cons_append, List.nil_append, List.map_cons, List.map_nil, nthO_zero, nthO_succ, List.drop_succ_cons, List.drop_zero, List.drop_nil]; (repeat (first | simp (maxSteps := 2000000) (disch := omega) only [go_sem, ↓reduceIte, Nat.reduceEqDiff, Nat.reduceAdd, Nat.reduceMul, Nat.reduceSub, Int.reduceToNat, Int.reduceAdd, Int.reduceSub, Int.reduceMul, Int.reduceNeg] | with_reducible refine vIf_t ?_ | with_reducible refine vIf_f ?_)))
        (try (repeat (first | simp (maxSteps := 2000000) (disch := omega) only [go_sem, ↓reduceIte, Nat.reduceEqDiff, Nat.reduceAdd, Nat.reduceMul, Nat.reduceSub, Int.reduceToNat, Int.reduceAdd, Int.reduceSub, Int.reduceMul, Int.reduceNeg, e3] | with_reducible refine vIf_t ?_ | with_reducible refine vIf_f ?_)))
        refine againF ((L, K, k + 1)) ?_ ?_ (by (first | (refine leF_s ?_; ((repeat (first | simp (maxSteps := 2000000) (disch := omega) only [go_sem, ↓reduceIte, Nat.reduceEqDiff, Nat.reduceAdd, Nat.reduceMul, Nat.reduceSub, Int.reduceToNat, Int.reduceAdd, Int.reduceSub, Int.reduceMul, Int.reduceNeg] | with_reducible refine vIf_t ?_ | with_reducible refine vIf_f ?_)); all_goals (try simp); all_goals (try omega)); done) | (refine leF_p ?_; ((repeat (first | simp (maxSteps := 2000000) (disch := omega) only [go_sem, ↓reduceIte, Nat.reduceEqDiff, Nat.reduceAdd, Nat.reduceMul, Nat.reduceSub, Int.reduceToNat, Int.reduceAdd, Int.reduceSub, Int.reduceMul, Int.reduceNeg] | with_reducible refine vIf_t ?_ | with_reducible refine vIf_f ?_)); all_goals (try simp); all_goals (try omega)); done)))
        · exact nxt L K _ hE hno
        · simp only; omega
    · have ek : k = n.ds.length := by omega
      subst ek
      (repeat (first | simp (maxSteps := 2000000) (disch := omega) only [go_sem, ↓reduceIte, Nat.reduceEqDiff, Nat.reduceAdd, Nat.reduceMul, Nat.reduceSub, Int.reduceToNat, Int.reduceAdd, Int.reduceSub, Int.reduceMul, Int.reduceNeg] | with_reducible refine vIf_t ?_ | with_reducible refine vIf_f ?_))
      refine againF ((L, K, i + 1)) ?_ ?_ (by (first | (refine leF_s ?_; ((repeat (first | simp (maxSteps := 2000000) (disch := omega) only [go_sem, ↓reduceIte, Nat.reduceEqDiff, Nat.reduceAdd, Nat.reduceMul, Nat.reduceSub, Int.reduceToNat, Int.reduceAdd, Int.reduceSub, Int.reduceMul, Int.reduceNeg] | with_reducible refine vIf_t ?_ | with_reducible refine vIf_f ?_)); all_goals (try simp); all_goals (try omega)); done) | (refine leF_p ?_; ((repeat (first | simp (maxSteps := 2000000) (disch := omega) only [go_sem, ↓reduceIte, Nat.reduceEqDiff, Nat.reduceAdd, Nat.reduceMul, Nat.reduceSub, Int.reduceToNat, Int.reduceAdd, Int.reduceSub, Int.reduceMul, Int.reduceNeg] | with_reducible refine vIf_t ?_ | with_reducible refine vIf_f ?_)); all_goals (try simp); all_goals (try omega)); done)))
      · refine ⟨hT, by simp only; omega, fun p hp => ?_⟩
        by_cases e : p = i
        · subst e; exact hDk
        · exact hD p (by simp only at hp; omega)
      · simp only; omega
  · have ek : i = L.length := by omega
    have h2 := ixw_ok n.j.toNat 43 [.ip [.sl L.length (ints L)] 0] (fun j => decide ((j : Int) ∈ L)) (fun j _ => hasR_ok L j (by omega)) rfl (by omega)
    rw [show ((n.j.toNat : Nat) : Int) = n.j by omega] at h2
    (repeat (first | simp (maxSteps := 2000000) (disch := omega) only [go_sem, ↓reduceIte, Nat.reduceEqDiff, Nat.reduceAdd, Nat.reduceMul, Nat.reduceSub, Int.reduceToNat, Int.reduceAdd, Int.reduceSub, Int.reduceMul, Int.reduceNeg] | with_reducible refine vIf_t ?_ | with_reducible refine vIf_f ?_))
    (refine vDraw_sch 6 [(0, false), (2, false), (1, false), (4, false), (3, false), (5, false)] mixed (by kernel_rfl) ?_; simp only [List.cons_append, List.nil_append, List.map_cons, List.map_nil, nthO_zero, nthO_succ, List.drop_succ_cons, List.drop_zero, List.drop_nil]; (repeat (first | simp (maxSteps := 2000000) (disch := omega) only [go_sem, ↓reduceIte, Nat.reduceEqDiff, Nat.reduceAdd, Nat.reduceMul, Nat.reduceSub, Int.reduceToNat, Int.reduceAdd, Int.reduceSub, Int.reduceMul, Int.reduceNeg] | with_reducible refine vIf_t ?_ | with_reducible refine vIf_f ?_)))
    (refine vsCallX_fz 5 _ rfl (by (repeat (first | simp (maxSteps := 2000000) (disch := omega) only [go_sem, ↓reduceIte, Nat.reduceEqDiff, Nat.reduceAdd, Nat.reduceMul, Nat.reduceSub, Int.reduceToNat, Int.reduceAdd, Int.reduceSub, Int.reduceMul, Int.reduceNeg] | with_reducible refine vIf_t ?_ | with_reducible refine vIf_f ?_))) ?_; (try (repeat (first | simp (maxSteps := 2000000) (disch := omega) only [go_sem, ↓reduceIte, Nat.reduceEqDiff, Nat.reduceAdd, Nat.reduceMul, Nat.reduceSub, Int.reduceToNat, Int.reduceAdd, Int.reduceSub, Int.reduceMul, Int.reduceNeg] | with_reducible refine vIf_t ?_ | with_reducible refine vIf_f ?_))); refine vsCallX_fz 2 _ rfl (by (repeat (first | simp (maxSteps := 2000000) (disch := omega) only [go_sem, ↓reduceIte, Nat.reduceEqDiff, Nat.reduceAdd, Nat.reduceMul, Nat.reduceSub, Int.reduceToNat, Int.reduceAdd, Int.reduceSub, Int.reduceMul, Int.reduceNeg] | with_reducible refine vIf_t ?_ | with_reducible refine vIf_f ?_))) ?_; (try (repeat (first | simp (maxSteps := 2000000) (disch := omega) only [go_sem, ↓reduceIte, Nat.reduceEqDiff, Nat.reduceAdd, Nat.reduceMul, Nat.reduceSub, Int.reduceToNat, Int.reduceAdd, Int.reduceSub, Int.reduceMul, Int.reduceNeg] | with_reducible refine vIf_t ?_ | with_reducible refine vIf_f ?_))))
    (refine vsCallX_of ?_; (try (repeat (first | simp (maxSteps := 2000000) (disch := omega) only [go_sem, ↓reduceIte, Nat.reduceEqDiff, Nat.reduceAdd, Nat.reduceMul, Nat.reduceSub, Int.reduceToNat, Int.reduceAdd, Int.reduceSub, Int.reduceMul, Int.reduceNeg] | with_reducible refine vIf_t ?_ | with_reducible refine vIf_f ?_))); refine vCall_eq (h2) (by simp (disch := omega) only [go_sem, Nat.reduceAdd]) rfl (by first | exact Or.inl rfl | exact Or.inr ⟨rfl, rfl⟩ | (apply Or.inr; simp only [go_sem])) ?_; (try (repeat (first | simp (maxSteps := 2000000) (disch := omega) only [go_sem, ↓reduceIte, Nat.reduceEqDiff, Nat.reduceAdd, Nat.reduceMul, Nat.reduceSub, Int.reduceToNat, Int.reduceAdd, Int.reduceSub, Int.reduceMul, Int.reduceNeg] | with_reducible refine vIf_t ?_ | with_reducible refine vIf_f ?_))))
    (try (repeat (first | simp (maxSteps := 2000000) (disch := omega) only [go_sem, ↓reduceIte, Nat.reduceEqDiff, Nat.reduceAdd, Nat.reduceMul, Nat.reduceSub, Int.reduceToNat, Int.reduceAdd, Int.reduceSub, Int.reduceMul, Int.reduceNeg] | with_reducible refine vIf_t ?_ | with_reducible refine vIf_f ?_)))
    (refine retK_of ?_; (repeat (first | simp (maxSteps := 2000000) (disch := omega) only [go_sem, ↓reduceIte, Nat.reduceEqDiff, Nat.reduceAdd, Nat.reduceMul, Nat.reduceSub, Int.reduceToNat, Int.reduceAdd, Int.reduceSub, Int.reduceMul, Int.reduceNeg] | with_reducible refine vIf_t ?_ | with_reducible refine vIf_f ?_)))
    exact ⟨L, K, _, rfl, rfl, hT, fun p hp => hD p (by omega)⟩
end Go.Proofs.YtikhligjhmldhaaDoor

/- duties: their texts -/
import Derived.Test.YtbbdfifpncjpnaaDoorT9
import Derived.Test.YtbbdfifpncjpnaaDoorHanP
set_option linter.unusedVariables false
set_option linter.unusedSimpArgs false
namespace Go.Proofs.YtbbdfifpncjpnaaDoor
-- few steps
open Go.AG Go.Lib

attribute [local go_sem] beq_self_eq_true bne_self_eq_false Bool.not_true Bool.not_false
def duQ (d : Du) : Int × Int := (d.owner, d.tw)
def duT (ds : List Du) : List UInt8 := prT 58 (ds.map duQ)
/-- the duties of pairs, one behind the other -/
def mkD : Int → List (Int × Int) → List Du
  | _, [] => []
  | s, p :: r => ⟨p.1, s, p.2⟩ :: mkD p.2 r
theorem mkD_len : ∀ (ps : List (Int × Int)) (s : Int), (mkD s ps).length = ps.length
  | [], _ => rfl
  | p :: r, s => by simp [mkD, mkD_len r]
theorem mkD_Q : ∀ (ps : List (Int × Int)) (s : Int), (mkD s ps).map duQ = ps
  | [], _ => rfl
  | p :: r, s => by simp [mkD, mkD_Q r, duQ]
theorem mkD_ch : ∀ (ds : List Du) (s e : Int), Ch s ds e → mkD s (ds.map duQ) = ds
  | [], _, _, _ => rfl
  | d :: r, s, e, h => by
    simp only [List.map_cons, mkD]
    rw [show (duQ d).2 = d.tw from rfl, mkD_ch r _ _ h.2.2.2, show (duQ d).1 = d.owner from rfl, ← h.2.1]
theorem mkD_get : ∀ (ps : List (Int × Int)) (s : Int) (k : Nat) (h : k < ps.length), gDu (mkD s ps) k = ⟨ps[k].1, if k = 0 then s else (gDu (mkD s ps) (k - 1)).tw, ps[k].2⟩
  | [], _, _, h => by simp at h
  | p :: r, s, 0, _ => rfl
  | p :: r, s, k + 1, h => by
    have ih := mkD_get r p.2 k (by simpa using h)
    have e : gDu (mkD s (p :: r)) (k + 1) = gDu (mkD p.2 r) k := by simp [mkD, gDu]
    rw [e, ih]
    cases k with
    | zero => rfl
    | succ k =>
      have e2 : gDu (mkD s (p :: r)) (k + 1) = gDu (mkD p.2 r) k := by simp [mkD, gDu]
      simp only [Nat.add_sub_cancel, Nat.succ_ne_zero, if_false, e2]
      rfl
theorem mkD_snoc : ∀ (ps : List (Int × Int)) (s : Int) (p : Int × Int), mkD s (ps ++ [p]) = mkD s ps ++ [⟨p.1, (ps.map (·.2)).getLastD s, p.2⟩]
  | [], s, p => rfl
  | q :: r, s, p => by
    rw [List.cons_append, mkD, mkD_snoc r]
    simp only [mkD, List.cons_append, List.map_cons, List.getLastD_cons]
theorem mkD_last (ps : List (Int × Int)) : (ps.map (·.2)).getLastD 0 = atD (mkD 0 ps) ps.length := by
  have e : (mkD 0 ps).map (·.tw) = ps.map (·.2) := by
    have := mkD_Q ps 0
    rw [← this, List.map_map, mkD_Q]
    rfl
  rw [← e, ← mkD_len ps 0]
  generalize mkD 0 ps = ds
  rcases List.eq_nil_or_concat ds with rfl | ⟨a, l, rfl⟩
  · rfl
  · rw [List.concat_eq_append, List.map_append, List.length_append, List.length_singleton, atD_succ]
    simp [gDu, List.getLastD_eq_getLast?]
theorem duT_len {ds : List Du} (h : ∀ d ∈ ds, nOk d.owner ∧ nOk d.tw) : (duT ds).length ≤ 44 * ds.length := by
  have := prT_len (c := 58) (ps := ds.map duQ) (by intro p hp; obtain ⟨s, hs, rfl⟩ := List.mem_map.1 hp; exact h s hs)
  simpa [duT] using this
theorem duT_asc (ds : List Du) : Asc (duT ds) := prT_asc (by decide) _
theorem vd_nOk {ds : List Du} {L : Int} (V : VD ds L) : ∀ d ∈ ds, nOk d.owner ∧ nOk d.tw := by
  intro s hs
  obtain ⟨i, hi, rfl⟩ := List.mem_iff_getElem.1 hs
  have h1 := V.bd i hi
  have h2 := V.l
  rw [gDu_lt ds i hi] at h1
  unfold nOk
  omega
theorem duT_take {ds : List Du} (k : Nat) (hk : k < ds.length) : duT (ds.take (k + 1)) = duT (ds.take k) ++ ((if k = 0 then [] else [32]) ++ (itoa (gDu ds k).owner ++ 58 :: itoa (gDu ds k).tw)) := by
  rw [gDu_take_succ ds k hk]
  unfold duT
  rw [List.map_append, List.map_cons, List.map_nil, prT_snoc]
  have e : ((ds.take k).map duQ).length = k := by simp; omega
  rw [e]
  rfl
/-- numbers of 64 bits -/
structure D64 (d : Du) : Prop where
  o : -9223372036854775808 ≤ d.owner ∧ d.owner ≤ 9223372036854775807
  f : -9223372036854775808 ≤ d.fr ∧ d.fr ≤ 9223372036854775807
  t : -9223372036854775808 ≤ d.tw ∧ d.tw ≤ 9223372036854775807
theorem duT_len64 : ∀ {ds : List Du} (h : ∀ d ∈ ds, D64 d), (duT ds).length ≤ 44 * ds.length := by
  intro ds h
  cases ds with
  | nil => simp [duT, prT_nil]
  | cons d r =>
    have key : ∀ d : Du, D64 d → (prP 58 (duQ d)).length ≤ 43 := by
      intro d hd
      have h1 := itoa_length_le d.owner hd.o.1 hd.o.2
      have h2 := itoa_length_le d.tw hd.t.1 hd.t.2
      simp [prP, duQ]
      omega
    have hr : ∀ r : List Du, (∀ d ∈ r, D64 d) → ((r.map duQ).flatMap (fun q => 32 :: prP 58 q)).length ≤ 44 * r.length := by
      intro r
      induction r with
      | nil => intro _; simp
      | cons x r ih =>
        intro h
        have := ih (fun d hd => h d (by simp [hd]))
        have := key x (h x (by simp))
        simp only [List.map_cons, List.flatMap_cons, List.length_append, List.length_cons]
        omega
    rw [duT, List.map_cons, prT_cons, List.length_append, List.length_cons]
    have := key d (h d (by simp))
    have := hr r (fun x hx => h x (by simp [hx]))
    omega
/-! reading back -/
/-- the duties that a text is -/
def rdU (l : List UInt8) (L : Int) : Option (List Du) := if vdB (mkD 0 (prs (nums l))) L = true ∧ duT (mkD 0 (prs (nums l))) = l then some (mkD 0 (prs (nums l))) else none
theorem rdU_iff (l : List UInt8) (L : Int) (ds : List Du) : rdU l L = some ds ↔ vdB ds L = true ∧ duT ds = l := by
  unfold rdU
  constructor
  · intro h
    split at h
    · rename_i hc
      simp only [Option.some.injEq] at h
      subst h
      exact hc
    · simp at h
  · rintro ⟨h1, rfl⟩
    have V := (vdB_iff _ _).1 h1
    have hn : mkD 0 (prs (nums (duT ds))) = ds := by
      unfold duT
      rw [prT_nums (by rfl) (by intro p hp; obtain ⟨s, hs, rfl⟩ := List.mem_map.1 hp; exact vd_nOk V s hs), prs_prI, mkD_ch _ _ _ (vd_ch.1 V).2.2]
    rw [hn, if_pos ⟨h1, rfl⟩]
def ruV : Option (List Du) → V
  | none => .tup [.sl 0 [], B false]
  | some ds => .tup [.sl ds.length (cDu ds), B true]
theorem rdU_R (l : List UInt8) (L : Int) : rdU l L = match prR 58 l with | some ps => if vdB (mkD 0 ps) L = true then some (mkD 0 ps) else none | none => none := by
  have key : ∀ ds, rdU l L = some ds ↔ (match prR 58 l with | some ps => if vdB (mkD 0 ps) L = true then some (mkD 0 ps) else none | none => none) = some ds := by
    intro ds
    rw [rdU_iff]
    constructor
    · rintro ⟨h1, rfl⟩
      have V := (vdB_iff _ _).1 h1
      have : prR 58 (duT ds) = some (ds.map duQ) := (prR_iff (by rfl) (by decide) _ _).2 ⟨by
        intro e
        have := V.n
        rw [List.map_eq_nil_iff] at e
        subst e
        simp at this, by intro p hp; obtain ⟨s, hs, rfl⟩ := List.mem_map.1 hp; exact vd_nOk V s hs, rfl⟩
      rw [this]
      simp only [mkD_ch _ _ _ (vd_ch.1 V).2.2, h1, if_true]
    · intro h
      cases hp : prR 58 l with
      | none => rw [hp] at h; simp at h
      | some ps =>
        rw [hp] at h
        simp only at h
        split at h
        · rename_i hk
          simp only [Option.some.injEq] at h
          subst h
          refine ⟨hk, ?_⟩
          have := ((prR_iff (by rfl) (by decide) _ _).1 hp).2.2
          rw [duT, mkD_Q]
          exact this
        · simp at h
  cases hr : rdU l L with
  | some ds => exact ((key ds).1 hr).symm
  | none =>
    cases hm : (match prR 58 l with | some ps => if vdB (mkD 0 ps) L = true then some (mkD 0 ps) else none | none => none) with
    | none => rfl
    | some ds => rw [(key ds).2 hm] at hr; exact absurd hr (by simp)
set_option maxRecDepth 20000 in
set_option maxHeartbeats 4000000 in
theorem dutiesText_ok (ds : List Du) (L : Int) (hl : ds.length ≤ 10000000) : ACalls Tryd.prog 15 [.sl ds.length (cDu ds), I L] [] (fun r o => r = St (tx (if vdB ds L = true then duT ds else [])) ∧ o = []) := by
  refine ACalls.of_vc Tryd.func15 rfl (by decide) 35 rfl [.tmp 4] rfl (by simp) ?_
  have h1 := validD_ok ds L hl
  cases e1 : vdB ds L with
  | false =>
    rw [e1] at h1
    (repeat (first | simp (disch := omega) only [go_sem, ↓reduceIte, Nat.reduceEqDiff, Nat.reduceAdd, Nat.reduceMul, Nat.reduceSub, Int.reduceToNat, Int.reduceAdd, Int.reduceSub, Int.reduceMul, Int.reduceNeg] | with_reducible refine vIf_t ?_ | with_reducible refine vIf_f ?_))
    (refine vCallX_of ?_; (repeat (first | simp (disch := omega) only [go_sem, ↓reduceIte, Nat.reduceEqDiff, Nat.reduceAdd, Nat.reduceMul, Nat.reduceSub, Int.reduceToNat, Int.reduceAdd, Int.reduceSub, Int.reduceMul, Int.reduceNeg] | with_reducible refine vIf_t ?_ | with_reducible refine vIf_f ?_)); refine vCall_eq (h1) (by simp (disch := omega) only [go_sem, Nat.reduceAdd]) rfl (by first | exact Or.inl rfl | exact Or.inr ⟨rfl, rfl⟩ | (apply Or.inr; simp only [go_sem])) ?_; (repeat (first | simp (disch := omega) only [go_sem, ↓reduceIte, Nat.reduceEqDiff, Nat.reduceAdd, Nat.reduceMul, Nat.reduceSub, Int.reduceToNat, Int.reduceAdd, Int.reduceSub, Int.reduceMul, Int.reduceNeg] | with_reducible refine vIf_t ?_ | with_reducible refine vIf_f ?_)))
    (refine retK_of ?_; (repeat (first | simp (disch := omega) only [go_sem, ↓reduceIte, Nat.reduceEqDiff, Nat.reduceAdd, Nat.reduceMul, Nat.reduceSub, Int.reduceToNat, Int.reduceAdd, Int.reduceSub, Int.reduceMul, Int.reduceNeg] | with_reducible refine vIf_t ?_ | with_reducible refine vIf_f ?_)))
    try rfl
  | true =>
    rw [e1] at h1
    have V := (vdB_iff _ _).1 e1
    have n := V.n
    have hno := vd_nOk V
    rw [if_pos rfl]
    (repeat (first | simp (disch := omega) only [go_sem, ↓reduceIte, Nat.reduceEqDiff, Nat.reduceAdd, Nat.reduceMul, Nat.reduceSub, Int.reduceToNat, Int.reduceAdd, Int.reduceSub, Int.reduceMul, Int.reduceNeg] | with_reducible refine vIf_t ?_ | with_reducible refine vIf_f ?_))
    (refine vCallX_of ?_; (repeat (first | simp (disch := omega) only [go_sem, ↓reduceIte, Nat.reduceEqDiff, Nat.reduceAdd, Nat.reduceMul, Nat.reduceSub, Int.reduceToNat, Int.reduceAdd, Int.reduceSub, Int.reduceMul, Int.reduceNeg] | with_reducible refine vIf_t ?_ | with_reducible refine vIf_f ?_)); refine vCall_eq (h1) (by simp (disch := omega) only [go_sem, Nat.reduceAdd]) rfl (by first | exact Or.inl rfl | exact Or.inr ⟨rfl, rfl⟩ | (apply Or.inr; simp only [go_sem])) ?_; (repeat (first | simp (disch := omega) only [go_sem, ↓reduceIte, Nat.reduceEqDiff, Nat.reduceAdd, Nat.reduceMul, Nat.reduceSub, Int.reduceToNat, Int.reduceAdd, Int.reduceSub, Int.reduceMul, Int.reduceNeg] | with_reducible refine vIf_t ?_ | with_reducible refine vIf_f ?_)))
    refine vcLoop_invF (fun k : Nat => k ≤ ds.length) (fun k => ⟨35, 0, [(14, I k), (5, St (tx (duT (ds.take k)))), (12, .sl ds.length (cDu ds)), (13, I ds.length)], []⟩) (fun k => ds.length - k) 0 (by omega) (by simp only [List.take_zero]; rw [show duT [] = [] from rfl]; (first | (refine leF_s ?_; ((repeat (first | simp (disch := omega) only [go_sem, ↓reduceIte, Nat.reduceEqDiff, Nat.reduceAdd, Nat.reduceMul, Nat.reduceSub, Int.reduceToNat, Int.reduceAdd, Int.reduceSub, Int.reduceMul, Int.reduceNeg] | with_reducible refine vIf_t ?_ | with_reducible refine vIf_f ?_)); all_goals (try simp); all_goals (try omega)); done) | (refine leF_p ?_; ((repeat (first | simp (disch := omega) only [go_sem, ↓reduceIte, Nat.reduceEqDiff, Nat.reduceAdd, Nat.reduceMul, Nat.reduceSub, Int.reduceToNat, Int.reduceAdd, Int.reduceSub, Int.reduceMul, Int.reduceNeg] | with_reducible refine vIf_t ?_ | with_reducible refine vIf_f ?_)); all_goals (try simp); all_goals (try omega)); done))) ?_
    intro k hk
    (repeat (first | simp (disch := omega) only [go_sem, ↓reduceIte, Nat.reduceEqDiff, Nat.reduceAdd, Nat.reduceMul, Nat.reduceSub, Int.reduceToNat, Int.reduceAdd, Int.reduceSub, Int.reduceMul, Int.reduceNeg] | with_reducible refine vIf_t ?_ | with_reducible refine vIf_f ?_))
    refine vIf_dec (fun h => ?_) (fun h => ?_)
    · have hkl : k < ds.length := by omega
      obtain ⟨k1, k2⟩ := hno _ (gDu_mem ds k hkl)
      have d1 := decimal_ok (gDu ds k).owner (by unfold nOk at k1; omega)
      have d2 := decimal_ok (gDu ds k).tw (by unfold nOk at k2; omega)
      have i1 := itoa_len _ k1
      have i2 := itoa_len _ k2
      have ht := duT_len (ds := ds.take k) (fun s hs => hno s (List.mem_of_mem_take hs))
      have htl : (ds.take k).length ≤ 40 := by simp; omega
      have es := duT_take k hkl
      (repeat (first | simp (disch := omega) only [go_sem, ↓reduceIte, Nat.reduceEqDiff, Nat.reduceAdd, Nat.reduceMul, Nat.reduceSub, Int.reduceToNat, Int.reduceAdd, Int.reduceSub, Int.reduceMul, Int.reduceNeg] | with_reducible refine vIf_t ?_ | with_reducible refine vIf_f ?_))
      by_cases h0 : k = 0
      · have c0 : decide ((0 : Int) < (k : Int)) = false := decide_eq_false (by omega)
        (try (repeat (first | simp (disch := omega) only [go_sem, ↓reduceIte, Nat.reduceEqDiff, Nat.reduceAdd, Nat.reduceMul, Nat.reduceSub, Int.reduceToNat, Int.reduceAdd, Int.reduceSub, Int.reduceMul, Int.reduceNeg, c0] | with_reducible refine vIf_t ?_ | with_reducible refine vIf_f ?_)))
        (refine vDraw_sch 9 [(0, false), (1, false), (5, false), (2, false), (6, false), (3, false), (4, false), (7, false), (8, false)] mixed (by kernel_rfl) ?_; simp only [List.cons_append, List.nil_append, List.map_cons, List.map_nil, nthO_zero, nthO_succ, List.drop_succ_cons, List.drop_zero, List.drop_nil]; (repeat (first | simp (disch := omega) only [go_sem, ↓reduceIte, Nat.reduceEqDiff, Nat.reduceAdd, Nat.reduceMul, Nat.reduceSub, Int.reduceToNat, Int.reduceAdd, Int.reduceSub, Int.reduceMul, Int.reduceNeg] | with_reducible refine vIf_t ?_ | with_reducible refine vIf_f ?_)))
        (refine vsCallX_of ?_; (try (repeat (first | simp (disch := omega) only [go_sem, ↓reduceIte, Nat.reduceEqDiff, Nat.reduceAdd, Nat.reduceMul, Nat.reduceSub, Int.reduceToNat, Int.reduceAdd, Int.reduceSub, Int.reduceMul, Int.reduceNeg] | with_reducible refine vIf_t ?_ | with_reducible refine vIf_f ?_))); refine vCall_eq (d1) (by simp (disch := omega) only [go_sem, Nat.reduceAdd]) rfl (by first | exact Or.inl rfl | exact Or.inr ⟨rfl, rfl⟩ | (apply Or.inr; simp only [go_sem])) ?_; (try (repeat (first | simp (disch := omega) only [go_sem, ↓reduceIte, Nat.reduceEqDiff, Nat.reduceAdd, Nat.reduceMul, Nat.reduceSub, Int.reduceToNat, Int.reduceAdd, Int.reduceSub, Int.reduceMul, Int.reduceNeg] | with_reducible refine vIf_t ?_ | with_reducible refine vIf_f ?_))))
        (refine vsCallX_of ?_; (try (repeat (first | simp (disch := omega) only [go_sem, ↓reduceIte, Nat.reduceEqDiff, Nat.reduceAdd, Nat.reduceMul, Nat.reduceSub, Int.reduceToNat, Int.reduceAdd, Int.reduceSub, Int.reduceMul, Int.reduceNeg] | with_reducible refine vIf_t ?_ | with_reducible refine vIf_f ?_))); refine vCall_eq (d2) (by simp (disch := omega) only [go_sem, Nat.reduceAdd]) rfl (by first | exact Or.inl rfl | exact Or.inr ⟨rfl, rfl⟩ | (apply Or.inr; simp only [go_sem])) ?_; (try (repeat (first | simp (disch := omega) only [go_sem, ↓reduceIte, Nat.reduceEqDiff, Nat.reduceAdd, Nat.reduceMul, Nat.reduceSub, Int.reduceToNat, Int.reduceAdd, Int.reduceSub, Int.reduceMul, Int.reduceNeg] | with_reducible refine vIf_t ?_ | with_reducible refine vIf_f ?_))))
        (try (repeat (first | simp (disch := omega) only [go_sem, ↓reduceIte, Nat.reduceEqDiff, Nat.reduceAdd, Nat.reduceMul, Nat.reduceSub, Int.reduceToNat, Int.reduceAdd, Int.reduceSub, Int.reduceMul, Int.reduceNeg] | with_reducible refine vIf_t ?_ | with_reducible refine vIf_f ?_)))
        refine againF (k + 1) (by omega) (by omega) ?_
        rw [es, if_pos h0]
        simp only [List.append_assoc, List.nil_append, List.cons_append]
        (first | (refine leF_s ?_; ((repeat (first | simp (disch := omega) only [go_sem, ↓reduceIte, Nat.reduceEqDiff, Nat.reduceAdd, Nat.reduceMul, Nat.reduceSub, Int.reduceToNat, Int.reduceAdd, Int.reduceSub, Int.reduceMul, Int.reduceNeg] | with_reducible refine vIf_t ?_ | with_reducible refine vIf_f ?_)); all_goals (try simp); all_goals (try omega)); done) | (refine leF_p ?_; ((repeat (first | simp (disch := omega) only [go_sem, ↓reduceIte, Nat.reduceEqDiff, Nat.reduceAdd, Nat.reduceMul, Nat.reduceSub, Int.reduceToNat, Int.reduceAdd, Int.reduceSub, Int.reduceMul, Int.reduceNeg] | with_reducible refine vIf_t ?_ | with_reducible refine vIf_f ?_)); all_goals (try simp); all_goals (try omega)); done))
      · have c0 : decide ((0 : Int) < (k : Int)) = true := decide_eq_true (by omega)
        (try (repeat (first | simp (disch := omega) only [go_sem, ↓reduceIte, Nat.reduceEqDiff, Nat.reduceAdd, Nat.reduceMul, Nat.reduceSub, Int.reduceToNat, Int.reduceAdd, Int.reduceSub, Int.reduceMul, Int.reduceNeg, c0] | with_reducible refine vIf_t ?_ | with_reducible refine vIf_f ?_)))
        (refine vDraw_sch 9 [(0, false), (1, false), (5, false), (2, false), (6, false), (3, false), (4, false), (7, false), (8, false)] mixed (by kernel_rfl) ?_; simp only [List.cons_append, List.nil_append, List.map_cons, List.map_nil, nthO_zero, nthO_succ, List.drop_succ_cons, List.drop_zero, List.drop_nil]; (repeat (first | simp (disch := omega) only [go_sem, ↓reduceIte, Nat.reduceEqDiff, Nat.reduceAdd, Nat.reduceMul, Nat.reduceSub, Int.reduceToNat, Int.reduceAdd, Int.reduceSub, Int.reduceMul, Int.reduceNeg] | with_reducible refine vIf_t ?_ | with_reducible refine vIf_f ?_)))
        (refine vsCallX_of ?_; (try (repeat (first | simp (disch := omega) only [go_sem, ↓reduceIte, Nat.reduceEqDiff, Nat.reduceAdd, Nat.reduceMul, Nat.reduceSub, Int.reduceToNat, Int.reduceAdd, Int.reduceSub, Int.reduceMul, Int.reduceNeg] | with_reducible refine vIf_t ?_ | with_reducible refine vIf_f ?_))); refine vCall_eq (d1) (by simp (disch := omega) only [go_sem, Nat.reduceAdd]) rfl (by first | exact Or.inl rfl | exact Or.inr ⟨rfl, rfl⟩ | (apply Or.inr; simp only [go_sem])) ?_; (try (repeat (first | simp (disch := omega) only [go_sem, ↓reduceIte, Nat.reduceEqDiff, Nat.reduceAdd, Nat.reduceMul, Nat.reduceSub, Int.reduceToNat, Int.reduceAdd, Int.reduceSub, Int.reduceMul, Int.reduceNeg] | with_reducible refine vIf_t ?_ | with_reducible refine vIf_f ?_))))
        (refine vsCallX_of ?_; (try (repeat (first | simp (disch := omega) only [go_sem, ↓reduceIte, Nat.reduceEqDiff, Nat.reduceAdd, Nat.reduceMul, Nat.reduceSub, Int.reduceToNat, Int.reduceAdd, Int.reduceSub, Int.reduceMul, Int.reduceNeg] | with_reducible refine vIf_t ?_ | with_reducible refine vIf_f ?_))); refine vCall_eq (d2) (by simp (disch := omega) only [go_sem, Nat.reduceAdd]) rfl (by first | exact Or.inl rfl | exact Or.inr ⟨rfl, rfl⟩ | (apply Or.inr; simp only [go_sem])) ?_; (try (repeat (first | simp (disch := omega) only [go_sem, ↓reduceIte, Nat.reduceEqDiff, Nat.reduceAdd, Nat.reduceMul, Nat.reduceSub, Int.reduceToNat, Int.reduceAdd, Int.reduceSub, Int.reduceMul, Int.reduceNeg] | with_reducible refine vIf_t ?_ | with_reducible refine vIf_f ?_))))
        (try (repeat (first | simp (disch := omega) only [go_sem, ↓reduceIte, Nat.reduceEqDiff, Nat.reduceAdd, Nat.reduceMul, Nat.reduceSub, Int.reduceToNat, Int.reduceAdd, Int.reduceSub, Int.reduceMul, Int.reduceNeg] | with_reducible refine vIf_t ?_ | with_reducible refine vIf_f ?_)))
        refine againF (k + 1) (by omega) (by omega) ?_
        rw [es, if_neg h0]
        simp only [List.append_assoc, List.cons_append]
        (first | (refine leF_s ?_; ((repeat (first | simp (disch := omega) only [go_sem, ↓reduceIte, Nat.reduceEqDiff, Nat.reduceAdd, Nat.reduceMul, Nat.reduceSub, Int.reduceToNat, Int.reduceAdd, Int.reduceSub, Int.reduceMul, Int.reduceNeg] | with_reducible refine vIf_t ?_ | with_reducible refine vIf_f ?_)); all_goals (try simp); all_goals (try omega)); done) | (refine leF_p ?_; ((repeat (first | simp (disch := omega) only [go_sem, ↓reduceIte, Nat.reduceEqDiff, Nat.reduceAdd, Nat.reduceMul, Nat.reduceSub, Int.reduceToNat, Int.reduceAdd, Int.reduceSub, Int.reduceMul, Int.reduceNeg] | with_reducible refine vIf_t ?_ | with_reducible refine vIf_f ?_)); all_goals (try simp); all_goals (try omega)); done))
    · have ek : k = ds.length := by omega
      subst ek
      rw [List.take_length]
      (repeat (first | simp (disch := omega) only [go_sem, ↓reduceIte, Nat.reduceEqDiff, Nat.reduceAdd, Nat.reduceMul, Nat.reduceSub, Int.reduceToNat, Int.reduceAdd, Int.reduceSub, Int.reduceMul, Int.reduceNeg] | with_reducible refine vIf_t ?_ | with_reducible refine vIf_f ?_))
      (refine retK_of ?_; (repeat (first | simp (disch := omega) only [go_sem, ↓reduceIte, Nat.reduceEqDiff, Nat.reduceAdd, Nat.reduceMul, Nat.reduceSub, Int.reduceToNat, Int.reduceAdd, Int.reduceSub, Int.reduceMul, Int.reduceNeg] | with_reducible refine vIf_t ?_ | with_reducible refine vIf_f ?_)))
set_option maxRecDepth 20000 in
set_option maxHeartbeats 4000000 in
theorem l21Text_ok (ds : List Du) (hl : ds.length ≤ 100) (hno : ∀ s ∈ ds, D64 s) : ACalls Tryd.prog 45 [.sl ds.length (cDu ds)] [] (fun r o => r = St (tx (duT ds)) ∧ o = []) := by
  refine ACalls.of_vc Tryd.func45 rfl (by decide) 32 rfl [.tmp 2] rfl (by simp) ?_
  (repeat (first | simp (disch := omega) only [go_sem, ↓reduceIte, Nat.reduceEqDiff, Nat.reduceAdd, Nat.reduceMul, Nat.reduceSub, Int.reduceToNat, Int.reduceAdd, Int.reduceSub, Int.reduceMul, Int.reduceNeg] | with_reducible refine vIf_t ?_ | with_reducible refine vIf_f ?_))
  refine vcLoop_invF (fun k : Nat => k ≤ ds.length) (fun k => ⟨32, 0, [(4, I k), (0, .sl ds.length (cDu ds)), (3, St (tx (duT (ds.take k))))], []⟩) (fun k => ds.length - k) 0 (by omega) (by simp only [List.take_zero]; rw [show duT [] = [] from rfl]; (first | (refine leF_s ?_; ((repeat (first | simp (disch := omega) only [go_sem, ↓reduceIte, Nat.reduceEqDiff, Nat.reduceAdd, Nat.reduceMul, Nat.reduceSub, Int.reduceToNat, Int.reduceAdd, Int.reduceSub, Int.reduceMul, Int.reduceNeg] | with_reducible refine vIf_t ?_ | with_reducible refine vIf_f ?_)); all_goals (try simp); all_goals (try omega)); done) | (refine leF_p ?_; ((repeat (first | simp (disch := omega) only [go_sem, ↓reduceIte, Nat.reduceEqDiff, Nat.reduceAdd, Nat.reduceMul, Nat.reduceSub, Int.reduceToNat, Int.reduceAdd, Int.reduceSub, Int.reduceMul, Int.reduceNeg] | with_reducible refine vIf_t ?_ | with_reducible refine vIf_f ?_)); all_goals (try simp); all_goals (try omega)); done))) ?_
  intro k hk
  (repeat (first | simp (disch := omega) only [go_sem, ↓reduceIte, Nat.reduceEqDiff, Nat.reduceAdd, Nat.reduceMul, Nat.reduceSub, Int.reduceToNat, Int.reduceAdd, Int.reduceSub, Int.reduceMul, Int.reduceNeg] | with_reducible refine vIf_t ?_ | with_reducible refine vIf_f ?_))
  refine vIf_dec (fun h => ?_) (fun h => ?_)
  · have hkl : k < ds.length := by omega
    have hd := hno _ (gDu_mem ds k hkl)
    have k1 := hd.o
    have k2 := hd.t
    have d1 := l01Dec_ok (gDu ds k).owner k1
    have d2 := l01Dec_ok (gDu ds k).tw k2
    have i1 := itoa_length_le _ k1.1 k1.2
    have i2 := itoa_length_le _ k2.1 k2.2
    have ht := duT_len64 (ds := ds.take k) (fun s hs => hno s (List.mem_of_mem_take hs))
    have htl : (ds.take k).length ≤ 100 := by simp; omega
    have es := duT_take k hkl
    (repeat (first | simp (disch := omega) only [go_sem, ↓reduceIte, Nat.reduceEqDiff, Nat.reduceAdd, Nat.reduceMul, Nat.reduceSub, Int.reduceToNat, Int.reduceAdd, Int.reduceSub, Int.reduceMul, Int.reduceNeg] | with_reducible refine vIf_t ?_ | with_reducible refine vIf_f ?_))
    by_cases h0 : k = 0
    · have c0 : decide ((0 : Int) < (k : Int)) = false := decide_eq_false (by omega)
      (try (repeat (first | simp (disch := omega) only [go_sem, ↓reduceIte, Nat.reduceEqDiff, Nat.reduceAdd, Nat.reduceMul, Nat.reduceSub, Int.reduceToNat, Int.reduceAdd, Int.reduceSub, Int.reduceMul, Int.reduceNeg, c0] | with_reducible refine vIf_t ?_ | with_reducible refine vIf_f ?_)))
      (refine vDraw_sch 15 [(0, false), (1, false), (2, false), (3, false), (4, false), (8, false), (9, false), (10, false), (11, false), (5, false), (12, false), (6, false), (7, false), (13, false), (14, false)] mixed (by kernel_rfl) ?_; simp only [List.cons_append, List.nil_append, List.map_cons, List.map_nil, nthO_zero, nthO_succ, List.drop_succ_cons, List.drop_zero, List.drop_nil]; (repeat (first | simp (disch := omega) only [go_sem, ↓reduceIte, Nat.reduceEqDiff, Nat.reduceAdd, Nat.reduceMul, Nat.reduceSub, Int.reduceToNat, Int.reduceAdd, Int.reduceSub, Int.reduceMul, Int.reduceNeg] | with_reducible refine vIf_t ?_ | with_reducible refine vIf_f ?_)))
      (refine vsCallX_of ?_; (try (repeat (first | simp (disch := omega) only [go_sem, ↓reduceIte, Nat.reduceEqDiff, Nat.reduceAdd, Nat.reduceMul, Nat.reduceSub, Int.reduceToNat, Int.reduceAdd, Int.reduceSub, Int.reduceMul, Int.reduceNeg] | with_reducible refine vIf_t ?_ | with_reducible refine vIf_f ?_))); refine vCall_eq (d1) (by simp (disch := omega) only [go_sem, Nat.reduceAdd]) rfl (by first | exact Or.inl rfl | exact Or.inr ⟨rfl, rfl⟩ | (apply Or.inr; simp only [go_sem])) ?_; (try (repeat (first | simp (disch := omega) only [go_sem, ↓reduceIte, Nat.reduceEqDiff, Nat.reduceAdd, Nat.reduceMul, Nat.reduceSub, Int.reduceToNat, Int.reduceAdd, Int.reduceSub, Int.reduceMul, Int.reduceNeg] | with_reducible refine vIf_t ?_ | with_reducible refine vIf_f ?_))))
      (refine vsCallX_of ?_; (try (repeat (first | simp (disch := omega) only [go_sem, ↓reduceIte, Nat.reduceEqDiff, Nat.reduceAdd, Nat.reduceMul, Nat.reduceSub, Int.reduceToNat, Int.reduceAdd, Int.reduceSub, Int.reduceMul, Int.reduceNeg] | with_reducible refine vIf_t ?_ | with_reducible refine vIf_f ?_))); refine vCall_eq (d2) (by simp (disch := omega) only [go_sem, Nat.reduceAdd]) rfl (by first | exact Or.inl rfl | exact Or.inr ⟨rfl, rfl⟩ | (apply Or.inr; simp only [go_sem])) ?_; (try (repeat (first | simp (disch := omega) only [go_sem, ↓reduceIte, Nat.reduceEqDiff, Nat.reduceAdd, Nat.reduceMul, Nat.reduceSub, Int.reduceToNat, Int.reduceAdd, Int.reduceSub, Int.reduceMul, Int.reduceNeg] | with_reducible refine vIf_t ?_ | with_reducible refine vIf_f ?_))))
      (try (repeat (first | simp (disch := omega) only [go_sem, ↓reduceIte, Nat.reduceEqDiff, Nat.reduceAdd, Nat.reduceMul, Nat.reduceSub, Int.reduceToNat, Int.reduceAdd, Int.reduceSub, Int.reduceMul, Int.reduceNeg] | with_reducible refine vIf_t ?_ | with_reducible refine vIf_f ?_)))
      refine againF (k + 1) (by omega) (by omega) ?_
      rw [es, if_pos h0]
      simp only [List.append_assoc, List.nil_append, List.cons_append]
      (first | (refine leF_s ?_; ((repeat (first | simp (disch := omega) only [go_sem, ↓reduceIte, Nat.reduceEqDiff, Nat.reduceAdd, Nat.reduceMul, Nat.reduceSub, Int.reduceToNat, Int.reduceAdd, Int.reduceSub, Int.reduceMul, Int.reduceNeg] | with_reducible refine vIf_t ?_ | with_reducible refine vIf_f ?_)); all_goals (try simp); all_goals (try omega)); done) | (refine leF_p ?_; ((repeat (first | simp (disch := omega) only [go_sem, ↓reduceIte, Nat.reduceEqDiff, Nat.reduceAdd, Nat.reduceMul, Nat.reduceSub, Int.reduceToNat, Int.reduceAdd, Int.reduceSub, Int.reduceMul, Int.reduceNeg] | with_reducible refine vIf_t ?_ | with_reducible refine vIf_f ?_)); all_goals (try simp); all_goals (try omega)); done))
    · have c0 : decide ((0 : Int) < (k : Int)) = true := decide_eq_true (by omega)
      (try (repeat (first | simp (disch := omega) only [go_sem, ↓reduceIte, Nat.reduceEqDiff, Nat.reduceAdd, Nat.reduceMul, Nat.reduceSub, Int.reduceToNat, Int.reduceAdd, Int.reduceSub, Int.reduceMul, Int.reduceNeg, c0] | with_reducible refine vIf_t ?_ | with_reducible refine vIf_f ?_)))
      (refine vDraw_sch 15 [(0, false), (1, false), (2, false), (3, false), (4, false), (8, false), (9, false), (10, false), (11, false), (5, false), (12, false), (6, false), (7, false), (13, false), (14, false)] mixed (by kernel_rfl) ?_; simp only [List.cons_append, List.nil_append, List.map_cons, List.map_nil, nthO_zero, nthO_succ, List.drop_succ_cons, List.drop_zero, List.drop_nil]; (repeat (first | simp (disch := omega) only [go_sem, ↓reduceIte, Nat.reduceEqDiff, Nat.reduceAdd, Nat.reduceMul, Nat.reduceSub, Int.reduceToNat, Int.reduceAdd, Int.reduceSub, Int.reduceMul, Int.reduceNeg] | with_reducible refine vIf_t ?_ | with_reducible refine vIf_f ?_)))
      (refine vsCallX_of ?_; (try (repeat (first | simp (disch := omega) only [go_sem, ↓reduceIte, Nat.reduceEqDiff, Nat.reduceAdd, Nat.reduceMul, Nat.reduceSub, Int.reduceToNat, Int.reduceAdd, Int.reduceSub, Int.reduceMul, Int.reduceNeg] | with_reducible refine vIf_t ?_ | with_reducible refine vIf_f ?_))); refine vCall_eq (d1) (by simp (disch := omega) only [go_sem, Nat.reduceAdd]) rfl (by first | exact Or.inl rfl | exact Or.inr ⟨rfl, rfl⟩ | (apply Or.inr; simp only [go_sem])) ?_; (try (repeat (first | simp (disch := omega) only [go_sem, ↓reduceIte, Nat.reduceEqDiff, Nat.reduceAdd, Nat.reduceMul, Nat.reduceSub, Int.reduceToNat, Int.reduceAdd, Int.reduceSub, Int.reduceMul, Int.reduceNeg] | with_reducible refine vIf_t ?_ | with_reducible refine vIf_f ?_))))
      (refine vsCallX_of ?_; (try (repeat (first | simp (disch := omega) only [go_sem, ↓reduceIte, Nat.reduceEqDiff, Nat.reduceAdd, Nat.reduceMul, Nat.reduceSub, Int.reduceToNat, Int.reduceAdd, Int.reduceSub, Int.reduceMul, Int.reduceNeg] | with_reducible refine vIf_t ?_ | with_reducible refine vIf_f ?_))); refine vCall_eq (d2) (by simp (disch := omega) only [go_sem, Nat.reduceAdd]) rfl (by first | exact Or.inl rfl | exact Or.inr ⟨rfl, rfl⟩ | (apply Or.inr; simp only [go_sem])) ?_; (try (repeat (first | simp (disch := omega) only [go_sem, ↓reduceIte, Nat.reduceEqDiff, Nat.reduceAdd, Nat.reduceMul, Nat.reduceSub, Int.reduceToNat, Int.reduceAdd, Int.reduceSub, Int.reduceMul, Int.reduceNeg] | with_reducible refine vIf_t ?_ | with_reducible refine vIf_f ?_))))
      (try (repeat (first | simp (disch := omega) only [go_sem, ↓reduceIte, Nat.reduceEqDiff, Nat.reduceAdd, Nat.reduceMul, Nat.reduceSub, Int.reduceToNat, Int.reduceAdd, Int.reduceSub, Int.reduceMul, Int.reduceNeg] | with_reducible refine vIf_t ?_ | with_reducible refine vIf_f ?_)))
      refine againF (k + 1) (by omega) (by omega) ?_
      rw [es, if_neg h0]
      simp only [List.append_assoc, List.cons_append]
      (first | (refine leF_s ?_; ((repeat (first | simp (disch := omega) only [go_sem, ↓reduceIte, Nat.reduceEqDiff, Nat.reduceAdd, Nat.reduceMul, Nat.reduceSub, Int.reduceToNat, Int.reduceAdd, Int.reduceSub, Int.reduceMul, Int.reduceNeg] | with_reducible refine vIf_t ?_ | with_reducible refine vIf_f ?_)); all_goals (try simp); all_goals (try omega)); done) | (refine leF_p ?_; ((repeat (first | simp (disch := omega) only [go_sem, ↓reduceIte, Nat.reduceEqDiff, Nat.reduceAdd, Nat.reduceMul, Nat.reduceSub, Int.reduceToNat, Int.reduceAdd, Int.reduceSub, Int.reduceMul, Int.reduceNeg] | with_reducible refine vIf_t ?_ | with_reducible refine vIf_f ?_)); all_goals (try simp); all_goals (try omega)); done))
  · have ek : k = ds.length := by omega
    subst ek
    rw [List.take_length]
    (repeat (first | simp (disch := omega) only [go_sem, ↓reduceIte, Nat.reduceEqDiff, Nat.reduceAdd, Nat.reduceMul, Nat.reduceSub, Int.reduceToNat, Int.reduceAdd, Int.reduceSub, Int.reduceMul, Int.reduceNeg] | with_reducible refine vIf_t ?_ | with_reducible refine vIf_f ?_))
    (refine retK_of ?_; (repeat (first | simp (disch := omega) only [go_sem, ↓reduceIte, Nat.reduceEqDiff, Nat.reduceAdd, Nat.reduceMul, Nat.reduceSub, Int.reduceToNat, Int.reduceAdd, Int.reduceSub, Int.reduceMul, Int.reduceNeg] | with_reducible refine vIf_t ?_ | with_reducible refine vIf_f ?_)))
theorem vd_64 {ds : List Du} {L : Int} (V : VD ds L) : ∀ d ∈ ds, D64 d := by
  intro s hs
  obtain ⟨i, hi, rfl⟩ := List.mem_iff_getElem.1 hs
  have h1 := V.bd i hi
  have h2 := V.l
  rw [gDu_lt ds i hi] at h1
  exact ⟨by omega, by omega, by omega⟩
theorem dutiesTextS_ok (ds : List Du) (L : Int) (hl : ds.length ≤ 10000000) : ACalls Tryd.prog 21 [.sl ds.length (cDu ds), I L] [] (fun r o => r = St (tx (if vdB ds L = true then duT ds else [])) ∧ o = []) := by
  refine ACalls.of_vc Tryd.func21 rfl (by decide) 11 rfl [.tmp 4] rfl (by simp) ?_
  have h1 := l21Ok_ok ds L hl
  cases e1 : vdB ds L with
  | false =>
    rw [e1] at h1
    (repeat (first | simp (disch := omega) only [go_sem, ↓reduceIte, Nat.reduceEqDiff, Nat.reduceAdd, Nat.reduceMul, Nat.reduceSub, Int.reduceToNat, Int.reduceAdd, Int.reduceSub, Int.reduceMul, Int.reduceNeg] | with_reducible refine vIf_t ?_ | with_reducible refine vIf_f ?_))
    (refine vCallX_of ?_; (repeat (first | simp (disch := omega) only [go_sem, ↓reduceIte, Nat.reduceEqDiff, Nat.reduceAdd, Nat.reduceMul, Nat.reduceSub, Int.reduceToNat, Int.reduceAdd, Int.reduceSub, Int.reduceMul, Int.reduceNeg] | with_reducible refine vIf_t ?_ | with_reducible refine vIf_f ?_)); refine vCall_eq (h1) (by simp (disch := omega) only [go_sem, Nat.reduceAdd]) rfl (by first | exact Or.inl rfl | exact Or.inr ⟨rfl, rfl⟩ | (apply Or.inr; simp only [go_sem])) ?_; (repeat (first | simp (disch := omega) only [go_sem, ↓reduceIte, Nat.reduceEqDiff, Nat.reduceAdd, Nat.reduceMul, Nat.reduceSub, Int.reduceToNat, Int.reduceAdd, Int.reduceSub, Int.reduceMul, Int.reduceNeg] | with_reducible refine vIf_t ?_ | with_reducible refine vIf_f ?_)))
    (refine retK_of ?_; (repeat (first | simp (disch := omega) only [go_sem, ↓reduceIte, Nat.reduceEqDiff, Nat.reduceAdd, Nat.reduceMul, Nat.reduceSub, Int.reduceToNat, Int.reduceAdd, Int.reduceSub, Int.reduceMul, Int.reduceNeg] | with_reducible refine vIf_t ?_ | with_reducible refine vIf_f ?_)))
    try rfl
  | true =>
    rw [e1] at h1
    have V := (vdB_iff _ _).1 e1
    have h2 := l21Text_ok ds (by have := V.n; omega) (vd_64 V)
    rw [if_pos rfl]
    (repeat (first | simp (disch := omega) only [go_sem, ↓reduceIte, Nat.reduceEqDiff, Nat.reduceAdd, Nat.reduceMul, Nat.reduceSub, Int.reduceToNat, Int.reduceAdd, Int.reduceSub, Int.reduceMul, Int.reduceNeg] | with_reducible refine vIf_t ?_ | with_reducible refine vIf_f ?_))
    (refine vCallX_of ?_; (repeat (first | simp (disch := omega) only [go_sem, ↓reduceIte, Nat.reduceEqDiff, Nat.reduceAdd, Nat.reduceMul, Nat.reduceSub, Int.reduceToNat, Int.reduceAdd, Int.reduceSub, Int.reduceMul, Int.reduceNeg] | with_reducible refine vIf_t ?_ | with_reducible refine vIf_f ?_)); refine vCall_eq (h1) (by simp (disch := omega) only [go_sem, Nat.reduceAdd]) rfl (by first | exact Or.inl rfl | exact Or.inr ⟨rfl, rfl⟩ | (apply Or.inr; simp only [go_sem])) ?_; (repeat (first | simp (disch := omega) only [go_sem, ↓reduceIte, Nat.reduceEqDiff, Nat.reduceAdd, Nat.reduceMul, Nat.reduceSub, Int.reduceToNat, Int.reduceAdd, Int.reduceSub, Int.reduceMul, Int.reduceNeg] | with_reducible refine vIf_t ?_ | with_reducible refine vIf_f ?_)))
    (refine vCallX_of ?_; (repeat (first | simp (disch := omega) only [go_sem, ↓reduceIte, Nat.reduceEqDiff, Nat.reduceAdd, Nat.reduceMul, Nat.reduceSub, Int.reduceToNat, Int.reduceAdd, Int.reduceSub, Int.reduceMul, Int.reduceNeg] | with_reducible refine vIf_t ?_ | with_reducible refine vIf_f ?_)); refine vCall_eq (h2) (by simp (disch := omega) only [go_sem, Nat.reduceAdd]) rfl (by first | exact Or.inl rfl | exact Or.inr ⟨rfl, rfl⟩ | (apply Or.inr; simp only [go_sem])) ?_; (repeat (first | simp (disch := omega) only [go_sem, ↓reduceIte, Nat.reduceEqDiff, Nat.reduceAdd, Nat.reduceMul, Nat.reduceSub, Int.reduceToNat, Int.reduceAdd, Int.reduceSub, Int.reduceMul, Int.reduceNeg] | with_reducible refine vIf_t ?_ | with_reducible refine vIf_f ?_)))
    (refine retK_of ?_; (repeat (first | simp (disch := omega) only [go_sem, ↓reduceIte, Nat.reduceEqDiff, Nat.reduceAdd, Nat.reduceMul, Nat.reduceSub, Int.reduceToNat, Int.reduceAdd, Int.reduceSub, Int.reduceMul, Int.reduceNeg] | with_reducible refine vIf_t ?_ | with_reducible refine vIf_f ?_)))
/-! reading back: the walks -/
theorem mkD_at (ps : List (Int × Int)) (k : Nat) (h : k < ps.length) : gDu (mkD 0 ps) k = ⟨ps[k].1, atD (mkD 0 ps) k, ps[k].2⟩ := mkD_get ps 0 k h
set_option maxRecDepth 20000 in
set_option maxHeartbeats 4000000 in
theorem readDuties_ok (l : List UInt8) (L : Int) (ha : Asc l) (hl : l.length ≤ 10000) : ACalls Tryd.prog 16 [St (tx l), I L] [] (fun r o => r = ruV (rdU l L) ∧ o = []) := by
  refine ACalls.of_vc Tryd.func16 rfl (by decide) 44 rfl [.tmp 4, .tmp 5] rfl (by simp) ?_
  have hnum := numbersX_ok l ha (by omega)
  have hnl := (nums_ok l).1
  have hfl := flG_len pn l none
  have hpl := prs_len (nums l)
  have hpg := prs_get (nums l)
  have er : rdU l L = if vdB (mkD 0 (prs (nums l))) L = true ∧ duT (mkD 0 (prs (nums l))) = l then some (mkD 0 (prs (nums l))) else none := rfl
  generalize nums l = ns at *
  generalize hds : mkD 0 (prs ns) = ds at er
  have hdl : ds.length = ns.length / 2 := by rw [← hds, mkD_len, hpl]
  have hdg : ∀ k, k < ds.length → gDu ds k = ⟨gi ns (2 * k), atD ds k, gi ns (2 * k + 1)⟩ := by
    intro k hk
    subst hds
    rw [mkD_len] at hk
    rw [mkD_at _ k hk, hpg k hk]
  have hv := validD_ok ds L (by omega)
  have ht := dutiesText_ok ds L (by omega)
  (repeat (first | simp (disch := omega) only [go_sem, ↓reduceIte, Nat.reduceEqDiff, Nat.reduceAdd, Nat.reduceMul, Nat.reduceSub, Int.reduceToNat, Int.reduceAdd, Int.reduceSub, Int.reduceMul, Int.reduceNeg] | with_reducible refine vIf_t ?_ | with_reducible refine vIf_f ?_))
  (refine vCallX_of ?_; (repeat (first | simp (disch := omega) only [go_sem, ↓reduceIte, Nat.reduceEqDiff, Nat.reduceAdd, Nat.reduceMul, Nat.reduceSub, Int.reduceToNat, Int.reduceAdd, Int.reduceSub, Int.reduceMul, Int.reduceNeg] | with_reducible refine vIf_t ?_ | with_reducible refine vIf_f ?_)); refine vCall_eq (hnum) (by simp (disch := omega) only [go_sem, Nat.reduceAdd]) rfl (by first | exact Or.inl rfl | exact Or.inr ⟨rfl, rfl⟩ | (apply Or.inr; simp only [go_sem])) ?_; (repeat (first | simp (disch := omega) only [go_sem, ↓reduceIte, Nat.reduceEqDiff, Nat.reduceAdd, Nat.reduceMul, Nat.reduceSub, Int.reduceToNat, Int.reduceAdd, Int.reduceSub, Int.reduceMul, Int.reduceNeg] | with_reducible refine vIf_t ?_ | with_reducible refine vIf_f ?_)))
  refine vcLoop_invF (fun k : Nat => k ≤ ds.length) (fun k => ⟨44, 0, [(8, .ref 1 (2 * k) (ns.length - 2 * k)), (7, I (atD ds k)), (6, .ref 0 0 k), (0, St (tx l)), (1, I L)], [some ⟨3, cDu (ds.take k)⟩, oI ns]⟩) (fun k => ds.length - k) 0 (by omega) (by simp only [List.take_zero, atD_zero]; (first | (refine leF_s ?_; ((repeat (first | simp (disch := omega) only [go_sem, ↓reduceIte, Nat.reduceEqDiff, Nat.reduceAdd, Nat.reduceMul, Nat.reduceSub, Int.reduceToNat, Int.reduceAdd, Int.reduceSub, Int.reduceMul, Int.reduceNeg] | with_reducible refine vIf_t ?_ | with_reducible refine vIf_f ?_)); all_goals (try simp); all_goals (try omega)); done) | (refine leF_p ?_; ((repeat (first | simp (disch := omega) only [go_sem, ↓reduceIte, Nat.reduceEqDiff, Nat.reduceAdd, Nat.reduceMul, Nat.reduceSub, Int.reduceToNat, Int.reduceAdd, Int.reduceSub, Int.reduceMul, Int.reduceNeg] | with_reducible refine vIf_t ?_ | with_reducible refine vIf_f ?_)); all_goals (try simp); all_goals (try omega)); done))) ?_
  intro k hk
  have hlt : (ds.take k).length = k := by simp; omega
  by_cases hkl : k < ds.length
  · have d5 : decide ((2 : Int) ≤ ((ns.length - 2 * k : Nat) : Int)) = true := decide_eq_true (by omega)
    have et := gDu_take_succ ds k hkl
    have eg := hdg k hkl
    have ea := atD_succ ds k
    rw [eg] at et ea
    simp only at ea
    (repeat (first | simp (disch := omega) only [go_sem, ↓reduceIte, Nat.reduceEqDiff, Nat.reduceAdd, Nat.reduceMul, Nat.reduceSub, Int.reduceToNat, Int.reduceAdd, Int.reduceSub, Int.reduceMul, Int.reduceNeg] | with_reducible refine vIf_t ?_ | with_reducible refine vIf_f ?_))
    (try (repeat (first | simp (disch := omega) only [go_sem, ↓reduceIte, Nat.reduceEqDiff, Nat.reduceAdd, Nat.reduceMul, Nat.reduceSub, Int.reduceToNat, Int.reduceAdd, Int.reduceSub, Int.reduceMul, Int.reduceNeg, d5] | with_reducible refine vIf_t ?_ | with_reducible refine vIf_f ?_)))
    (refine vDraw_sch 10 [(0, false), (1, false), (2, false), (4, false), (5, false), (6, false), (3, false), (7, true), (8, false), (9, false)] mixed (by kernel_rfl) ?_; simp only [List.cons_append, List.nil_append, List.map_cons, List.map_nil, nthO_zero, nthO_succ, List.drop_succ_cons, List.drop_zero, List.drop_nil]; (repeat (first | simp (disch := omega) only [go_sem, ↓reduceIte, Nat.reduceEqDiff, Nat.reduceAdd, Nat.reduceMul, Nat.reduceSub, Int.reduceToNat, Int.reduceAdd, Int.reduceSub, Int.reduceMul, Int.reduceNeg] | with_reducible refine vIf_t ?_ | with_reducible refine vIf_f ?_)))
    (try (repeat (first | simp (disch := omega) only [go_sem, ↓reduceIte, Nat.reduceEqDiff, Nat.reduceAdd, Nat.reduceMul, Nat.reduceSub, Int.reduceToNat, Int.reduceAdd, Int.reduceSub, Int.reduceMul, Int.reduceNeg] | with_reducible refine vIf_t ?_ | with_reducible refine vIf_f ?_)))
    refine againF (k + 1) (by omega) (by omega) ?_
    rw [et, ea]
    (first | (refine leF_s ?_; ((repeat (first | simp (disch := omega) only [go_sem, ↓reduceIte, Nat.reduceEqDiff, Nat.reduceAdd, Nat.reduceMul, Nat.reduceSub, Int.reduceToNat, Int.reduceAdd, Int.reduceSub, Int.reduceMul, Int.reduceNeg] | with_reducible refine vIf_t ?_ | with_reducible refine vIf_f ?_)); all_goals (try simp); all_goals (try omega)); done) | (refine leF_p ?_; ((repeat (first | simp (disch := omega) only [go_sem, ↓reduceIte, Nat.reduceEqDiff, Nat.reduceAdd, Nat.reduceMul, Nat.reduceSub, Int.reduceToNat, Int.reduceAdd, Int.reduceSub, Int.reduceMul, Int.reduceNeg] | with_reducible refine vIf_t ?_ | with_reducible refine vIf_f ?_)); all_goals (try simp); all_goals (try omega)); done))
  · have ek : k = ds.length := by omega
    subst ek
    have d5 : decide ((2 : Int) ≤ ((ns.length - 2 * ds.length : Nat) : Int)) = false := decide_eq_false (by omega)
    (repeat (first | simp (disch := omega) only [go_sem, ↓reduceIte, Nat.reduceEqDiff, Nat.reduceAdd, Nat.reduceMul, Nat.reduceSub, Int.reduceToNat, Int.reduceAdd, Int.reduceSub, Int.reduceMul, Int.reduceNeg, List.take_length] | with_reducible refine vIf_t ?_ | with_reducible refine vIf_f ?_))
    (try (repeat (first | simp (disch := omega) only [go_sem, ↓reduceIte, Nat.reduceEqDiff, Nat.reduceAdd, Nat.reduceMul, Nat.reduceSub, Int.reduceToNat, Int.reduceAdd, Int.reduceSub, Int.reduceMul, Int.reduceNeg, d5] | with_reducible refine vIf_t ?_ | with_reducible refine vIf_f ?_)))
    cases e1 : vdB ds L with
    | false =>
      rw [er, if_neg (by simp [e1])]
      rw [e1] at hv
      (refine vCallX_of ?_; (repeat (first | simp (disch := omega) only [go_sem, ↓reduceIte, Nat.reduceEqDiff, Nat.reduceAdd, Nat.reduceMul, Nat.reduceSub, Int.reduceToNat, Int.reduceAdd, Int.reduceSub, Int.reduceMul, Int.reduceNeg] | with_reducible refine vIf_t ?_ | with_reducible refine vIf_f ?_)); refine vCall_eq (hv) (by simp (disch := omega) only [go_sem, Nat.reduceAdd]) rfl (by first | exact Or.inl rfl | exact Or.inr ⟨rfl, rfl⟩ | (apply Or.inr; simp only [go_sem])) ?_; (repeat (first | simp (disch := omega) only [go_sem, ↓reduceIte, Nat.reduceEqDiff, Nat.reduceAdd, Nat.reduceMul, Nat.reduceSub, Int.reduceToNat, Int.reduceAdd, Int.reduceSub, Int.reduceMul, Int.reduceNeg] | with_reducible refine vIf_t ?_ | with_reducible refine vIf_f ?_)))
      refine retK_frz (.step 2 ⟨3, cDu []⟩ rfl (by (repeat (first | simp (disch := omega) only [go_sem, ↓reduceIte, Nat.reduceEqDiff, Nat.reduceAdd, Nat.reduceMul, Nat.reduceSub, Int.reduceToNat, Int.reduceAdd, Int.reduceSub, Int.reduceMul, Int.reduceNeg] | with_reducible refine vIf_t ?_ | with_reducible refine vIf_f ?_))) (.refl _)) ?_
      (repeat (first | simp (disch := omega) only [go_sem, ↓reduceIte, Nat.reduceEqDiff, Nat.reduceAdd, Nat.reduceMul, Nat.reduceSub, Int.reduceToNat, Int.reduceAdd, Int.reduceSub, Int.reduceMul, Int.reduceNeg] | with_reducible refine vIf_t ?_ | with_reducible refine vIf_f ?_))
      try rfl
    | true =>
      rw [e1] at hv
      rw [if_pos e1] at ht
      (refine vCallX_of ?_; (repeat (first | simp (disch := omega) only [go_sem, ↓reduceIte, Nat.reduceEqDiff, Nat.reduceAdd, Nat.reduceMul, Nat.reduceSub, Int.reduceToNat, Int.reduceAdd, Int.reduceSub, Int.reduceMul, Int.reduceNeg] | with_reducible refine vIf_t ?_ | with_reducible refine vIf_f ?_)); refine vCall_eq (hv) (by simp (disch := omega) only [go_sem, Nat.reduceAdd]) rfl (by first | exact Or.inl rfl | exact Or.inr ⟨rfl, rfl⟩ | (apply Or.inr; simp only [go_sem])) ?_; (repeat (first | simp (disch := omega) only [go_sem, ↓reduceIte, Nat.reduceEqDiff, Nat.reduceAdd, Nat.reduceMul, Nat.reduceSub, Int.reduceToNat, Int.reduceAdd, Int.reduceSub, Int.reduceMul, Int.reduceNeg] | with_reducible refine vIf_t ?_ | with_reducible refine vIf_f ?_)))
      by_cases e : duT ds = l
      · rw [er, if_pos ⟨e1, e⟩]
        rw [e] at ht
        (refine vCallX_of ?_; (repeat (first | simp (disch := omega) only [go_sem, ↓reduceIte, Nat.reduceEqDiff, Nat.reduceAdd, Nat.reduceMul, Nat.reduceSub, Int.reduceToNat, Int.reduceAdd, Int.reduceSub, Int.reduceMul, Int.reduceNeg] | with_reducible refine vIf_t ?_ | with_reducible refine vIf_f ?_)); refine vCall_eq (ht) (by simp (disch := omega) only [go_sem, Nat.reduceAdd]) rfl (by first | exact Or.inl rfl | exact Or.inr ⟨rfl, rfl⟩ | (apply Or.inr; simp only [go_sem])) ?_; (repeat (first | simp (disch := omega) only [go_sem, ↓reduceIte, Nat.reduceEqDiff, Nat.reduceAdd, Nat.reduceMul, Nat.reduceSub, Int.reduceToNat, Int.reduceAdd, Int.reduceSub, Int.reduceMul, Int.reduceNeg] | with_reducible refine vIf_t ?_ | with_reducible refine vIf_f ?_)))
        refine retK_frz (.step 0 ⟨3, cDu ds⟩ rfl (by (repeat (first | simp (disch := omega) only [go_sem, ↓reduceIte, Nat.reduceEqDiff, Nat.reduceAdd, Nat.reduceMul, Nat.reduceSub, Int.reduceToNat, Int.reduceAdd, Int.reduceSub, Int.reduceMul, Int.reduceNeg] | with_reducible refine vIf_t ?_ | with_reducible refine vIf_f ?_))) (.refl _)) ?_
        (repeat (first | simp (disch := omega) only [go_sem, ↓reduceIte, Nat.reduceEqDiff, Nat.reduceAdd, Nat.reduceMul, Nat.reduceSub, Int.reduceToNat, Int.reduceAdd, Int.reduceSub, Int.reduceMul, Int.reduceNeg] | with_reducible refine vIf_t ?_ | with_reducible refine vIf_f ?_))
        try rfl
      · have nb := tx_bq e
        rw [er, if_neg (fun h => e h.2)]
        (refine vCallX_of ?_; (repeat (first | simp (disch := omega) only [go_sem, ↓reduceIte, Nat.reduceEqDiff, Nat.reduceAdd, Nat.reduceMul, Nat.reduceSub, Int.reduceToNat, Int.reduceAdd, Int.reduceSub, Int.reduceMul, Int.reduceNeg] | with_reducible refine vIf_t ?_ | with_reducible refine vIf_f ?_)); refine vCall_eq (ht) (by simp (disch := omega) only [go_sem, Nat.reduceAdd]) rfl (by first | exact Or.inl rfl | exact Or.inr ⟨rfl, rfl⟩ | (apply Or.inr; simp only [go_sem])) ?_; (repeat (first | simp (disch := omega) only [go_sem, ↓reduceIte, Nat.reduceEqDiff, Nat.reduceAdd, Nat.reduceMul, Nat.reduceSub, Int.reduceToNat, Int.reduceAdd, Int.reduceSub, Int.reduceMul, Int.reduceNeg] | with_reducible refine vIf_t ?_ | with_reducible refine vIf_f ?_)))
        (try (repeat (first | simp (disch := omega) only [go_sem, ↓reduceIte, Nat.reduceEqDiff, Nat.reduceAdd, Nat.reduceMul, Nat.reduceSub, Int.reduceToNat, Int.reduceAdd, Int.reduceSub, Int.reduceMul, Int.reduceNeg, nb] | with_reducible refine vIf_t ?_ | with_reducible refine vIf_f ?_)))
        refine retK_frz (.step 2 ⟨3, cDu []⟩ rfl (by (repeat (first | simp (disch := omega) only [go_sem, ↓reduceIte, Nat.reduceEqDiff, Nat.reduceAdd, Nat.reduceMul, Nat.reduceSub, Int.reduceToNat, Int.reduceAdd, Int.reduceSub, Int.reduceMul, Int.reduceNeg] | with_reducible refine vIf_t ?_ | with_reducible refine vIf_f ?_))) (.refl _)) ?_
        (repeat (first | simp (disch := omega) only [go_sem, ↓reduceIte, Nat.reduceEqDiff, Nat.reduceAdd, Nat.reduceMul, Nat.reduceSub, Int.reduceToNat, Int.reduceAdd, Int.reduceSub, Int.reduceMul, Int.reduceNeg] | with_reducible refine vIf_t ?_ | with_reducible refine vIf_f ?_))
        try rfl
set_option maxRecDepth 20000 in
set_option maxHeartbeats 8000000 in
theorem readDutiesS_ok (l : List UInt8) (L : Int) (ha : Asc l) (hl : l.length ≤ 10000) : ACalls Tryd.prog 18 [St (tx l), I L] [] (fun r o => r = ruV (rdU l L) ∧ o = []) := by
  refine ACalls.leT (Q := fun r o => (r = ruV (rdU l L) ∧ o = []) ∨ (r = .tup [nilS, B false] ∧ rdU l L = none ∧ o = [])) ?_ ?_
  rotate_left
  · intro r o hq
    rcases hq with ⟨rfl, rfl⟩ | ⟨rfl, h, rfl⟩
    · exact ⟨_, leR_refl _, rfl, rfl⟩
    · rw [h]; exact ⟨_, leR_nil2 _, rfl, rfl⟩
  refine ACalls.of_vc Tryd.func18 rfl (by decide) 65 rfl [.tmp 4, .tmp 5] rfl (by simp) ?_
  have hsp := l01Split_ok l 32 (by omega)
  have hsl := splB_len 32 l []
  have h32 : ((32 : UInt8).toNat : Int) = 32 := rfl
  have h58 : ((58 : UInt8).toNat : Int) = 58 := rfl
  rw [h32] at hsp
  have hml := splB_ml 32 l []
  have hR := rdU_R l L
  unfold prR at hR
  generalize splB 32 l [] = ws at *
  have hwl : (ws.map tx).length = ws.length := by simp
  (repeat (first | simp (disch := omega) only [go_sem, ↓reduceIte, Nat.reduceEqDiff, Nat.reduceAdd, Nat.reduceMul, Nat.reduceSub, Int.reduceToNat, Int.reduceAdd, Int.reduceSub, Int.reduceMul, Int.reduceNeg] | with_reducible refine vIf_t ?_ | with_reducible refine vIf_f ?_))
  (refine vCallX_of ?_; (repeat (first | simp (disch := omega) only [go_sem, ↓reduceIte, Nat.reduceEqDiff, Nat.reduceAdd, Nat.reduceMul, Nat.reduceSub, Int.reduceToNat, Int.reduceAdd, Int.reduceSub, Int.reduceMul, Int.reduceNeg] | with_reducible refine vIf_t ?_ | with_reducible refine vIf_f ?_)); refine vCall_eq (hsp) (by simp (disch := omega) only [go_sem, Nat.reduceAdd]) rfl (by first | exact Or.inl rfl | exact Or.inr ⟨rfl, rfl⟩ | (apply Or.inr; simp only [go_sem])) ?_; (repeat (first | simp (disch := omega) only [go_sem, ↓reduceIte, Nat.reduceEqDiff, Nat.reduceAdd, Nat.reduceMul, Nat.reduceSub, Int.reduceToNat, Int.reduceAdd, Int.reduceSub, Int.reduceMul, Int.reduceNeg] | with_reducible refine vIf_t ?_ | with_reducible refine vIf_f ?_)))
  refine vcLoop_invF (fun x : Nat × List (Int × Int) => x.1 ≤ ws.length ∧ prA 58 (ws.take x.1) = some x.2 ∧ x.2.length = x.1) (fun x => ⟨65, 0, [(9, I x.1), (8, I (atD (mkD 0 x.2) x.1)), (7, .ref 1 0 x.1), (6, .ref 0 0 ws.length), (1, I L)], [some ⟨1, strs (ws.map tx)⟩, some ⟨3, cDu (mkD 0 x.2)⟩]⟩) (fun x => ws.length - x.1) (0, []) ⟨by simp, rfl, rfl⟩ (by simp only [mkD, atD_zero]; (first | (refine leF_s ?_; ((repeat (first | simp (disch := omega) only [go_sem, ↓reduceIte, Nat.reduceEqDiff, Nat.reduceAdd, Nat.reduceMul, Nat.reduceSub, Int.reduceToNat, Int.reduceAdd, Int.reduceSub, Int.reduceMul, Int.reduceNeg] | with_reducible refine vIf_t ?_ | with_reducible refine vIf_f ?_)); all_goals (try simp); all_goals (try omega)); done) | (refine leF_p ?_; ((repeat (first | simp (disch := omega) only [go_sem, ↓reduceIte, Nat.reduceEqDiff, Nat.reduceAdd, Nat.reduceMul, Nat.reduceSub, Int.reduceToNat, Int.reduceAdd, Int.reduceSub, Int.reduceMul, Int.reduceNeg] | with_reducible refine vIf_t ?_ | with_reducible refine vIf_f ?_)); all_goals (try simp); all_goals (try omega)); done))) ?_
  rintro ⟨k, ps⟩ ⟨hk, hA, hn⟩
  simp only at hk hA hn
  have hpl : (mkD 0 ps).length = k := by rw [mkD_len, hn]
  (repeat (first | simp (disch := omega) only [go_sem, ↓reduceIte, Nat.reduceEqDiff, Nat.reduceAdd, Nat.reduceMul, Nat.reduceSub, Int.reduceToNat, Int.reduceAdd, Int.reduceSub, Int.reduceMul, Int.reduceNeg] | with_reducible refine vIf_t ?_ | with_reducible refine vIf_f ?_))
  refine vIf_dec (fun h => ?_) (fun h => ?_)
  · have hkl : k < ws.length := by omega
    have hg := gw_gs ws k hkl
    have hgm : gw ws k ∈ ws := gw_mem ws k hkl
    have hgl := hml _ hgm
    simp only [List.length_nil, Nat.zero_add] at hgl
    have hs2 := l01Split_ok (gw ws k) 58 (by omega)
    rw [h58] at hs2
    have hm2 := splB_ml 58 (gw ws k) []
    have fail : pr1 58 (gw ws k) = none → rdU l L = none := by
      intro e
      rw [hR, prA_none hgm e]
    have more : ∀ p, pr1 58 (gw ws k) = some p → prA 58 (ws.take (k + 1)) = some (ps ++ [p]) := by
      intro p hp
      have et : ws.take (k + 1) = ws.take k ++ [gw ws k] := by
        rw [List.take_succ_eq_append_getElem hkl]
        simp [gw, hkl]
      rw [et]
      exact prA_snoc _ _ _ _ hA hp
    unfold pr1 at fail more
    have hsl2 := splB_len 58 (gw ws k) []
    generalize splB 58 (gw ws k) [] = vs at *
    (repeat (first | simp (disch := omega) only [go_sem, ↓reduceIte, Nat.reduceEqDiff, Nat.reduceAdd, Nat.reduceMul, Nat.reduceSub, Int.reduceToNat, Int.reduceAdd, Int.reduceSub, Int.reduceMul, Int.reduceNeg, hg] | with_reducible refine vIf_t ?_ | with_reducible refine vIf_f ?_))
    (refine vCallX_of ?_; (repeat (first | simp (disch := omega) only [go_sem, ↓reduceIte, Nat.reduceEqDiff, Nat.reduceAdd, Nat.reduceMul, Nat.reduceSub, Int.reduceToNat, Int.reduceAdd, Int.reduceSub, Int.reduceMul, Int.reduceNeg] | with_reducible refine vIf_t ?_ | with_reducible refine vIf_f ?_)); refine vCall_eq (hs2) (by simp (disch := omega) only [go_sem, Nat.reduceAdd]) rfl (by first | exact Or.inl rfl | exact Or.inr ⟨rfl, rfl⟩ | (apply Or.inr; simp only [go_sem])) ?_; (repeat (first | simp (disch := omega) only [go_sem, ↓reduceIte, Nat.reduceEqDiff, Nat.reduceAdd, Nat.reduceMul, Nat.reduceSub, Int.reduceToNat, Int.reduceAdd, Int.reduceSub, Int.reduceMul, Int.reduceNeg] | with_reducible refine vIf_t ?_ | with_reducible refine vIf_f ?_)))
    by_cases h2 : vs.length = 2
    · have c2 : ((vs.length : Int) != 2) = false := by simp; omega
      match vs, h2 with
      | [x, y], _ =>
        have hx := hm2 x (by simp)
        have hy := hm2 y (by simp)
        simp only [List.length_nil, Nat.zero_add] at hx hy
        have n1 := l01Number_ok x (by omega)
        have n2 := l01Number_ok y (by omega)
        have g0 : gs [tx x, tx y] 0 = tx x := rfl
        have g1 : gs [tx x, tx y] 1 = tx y := rfl
        simp only at fail more
        (try (repeat (first | simp (disch := omega) only [go_sem, ↓reduceIte, Nat.reduceEqDiff, Nat.reduceAdd, Nat.reduceMul, Nat.reduceSub, Int.reduceToNat, Int.reduceAdd, Int.reduceSub, Int.reduceMul, Int.reduceNeg, c2, g0] | with_reducible refine vIf_t ?_ | with_reducible refine vIf_f ?_)))
        cases r1 : rdD x with
        | none =>
          rw [r1] at n1
          rw [fail (by rw [r1])]
          unfold rdR at n1
          (refine vCallX_of ?_; (repeat (first | simp (disch := omega) only [go_sem, ↓reduceIte, Nat.reduceEqDiff, Nat.reduceAdd, Nat.reduceMul, Nat.reduceSub, Int.reduceToNat, Int.reduceAdd, Int.reduceSub, Int.reduceMul, Int.reduceNeg] | with_reducible refine vIf_t ?_ | with_reducible refine vIf_f ?_)); refine vCall_eq (n1) (by simp (disch := omega) only [go_sem, Nat.reduceAdd]) rfl (by first | exact Or.inl rfl | exact Or.inr ⟨rfl, rfl⟩ | (apply Or.inr; simp only [go_sem])) ?_; (repeat (first | simp (disch := omega) only [go_sem, ↓reduceIte, Nat.reduceEqDiff, Nat.reduceAdd, Nat.reduceMul, Nat.reduceSub, Int.reduceToNat, Int.reduceAdd, Int.reduceSub, Int.reduceMul, Int.reduceNeg] | with_reducible refine vIf_t ?_ | with_reducible refine vIf_f ?_)))
          (try (repeat (first | simp (disch := omega) only [go_sem, ↓reduceIte, Nat.reduceEqDiff, Nat.reduceAdd, Nat.reduceMul, Nat.reduceSub, Int.reduceToNat, Int.reduceAdd, Int.reduceSub, Int.reduceMul, Int.reduceNeg, g1] | with_reducible refine vIf_t ?_ | with_reducible refine vIf_f ?_)))
          cases r2 : rdD y with
          | none =>
            rw [r2] at n2
            unfold rdR at n2
            (refine vCallX_of ?_; (repeat (first | simp (disch := omega) only [go_sem, ↓reduceIte, Nat.reduceEqDiff, Nat.reduceAdd, Nat.reduceMul, Nat.reduceSub, Int.reduceToNat, Int.reduceAdd, Int.reduceSub, Int.reduceMul, Int.reduceNeg] | with_reducible refine vIf_t ?_ | with_reducible refine vIf_f ?_)); refine vCall_eq (n2) (by simp (disch := omega) only [go_sem, Nat.reduceAdd]) rfl (by first | exact Or.inl rfl | exact Or.inr ⟨rfl, rfl⟩ | (apply Or.inr; simp only [go_sem])) ?_; (repeat (first | simp (disch := omega) only [go_sem, ↓reduceIte, Nat.reduceEqDiff, Nat.reduceAdd, Nat.reduceMul, Nat.reduceSub, Int.reduceToNat, Int.reduceAdd, Int.reduceSub, Int.reduceMul, Int.reduceNeg] | with_reducible refine vIf_t ?_ | with_reducible refine vIf_f ?_)))
            (refine retK_of ?_; (repeat (first | simp (disch := omega) only [go_sem, ↓reduceIte, Nat.reduceEqDiff, Nat.reduceAdd, Nat.reduceMul, Nat.reduceSub, Int.reduceToNat, Int.reduceAdd, Int.reduceSub, Int.reduceMul, Int.reduceNeg] | with_reducible refine vIf_t ?_ | with_reducible refine vIf_f ?_)))
            try simp
          | some b =>
            rw [r2] at n2
            unfold rdR at n2
            (refine vCallX_of ?_; (repeat (first | simp (disch := omega) only [go_sem, ↓reduceIte, Nat.reduceEqDiff, Nat.reduceAdd, Nat.reduceMul, Nat.reduceSub, Int.reduceToNat, Int.reduceAdd, Int.reduceSub, Int.reduceMul, Int.reduceNeg] | with_reducible refine vIf_t ?_ | with_reducible refine vIf_f ?_)); refine vCall_eq (n2) (by simp (disch := omega) only [go_sem, Nat.reduceAdd]) rfl (by first | exact Or.inl rfl | exact Or.inr ⟨rfl, rfl⟩ | (apply Or.inr; simp only [go_sem])) ?_; (repeat (first | simp (disch := omega) only [go_sem, ↓reduceIte, Nat.reduceEqDiff, Nat.reduceAdd, Nat.reduceMul, Nat.reduceSub, Int.reduceToNat, Int.reduceAdd, Int.reduceSub, Int.reduceMul, Int.reduceNeg] | with_reducible refine vIf_t ?_ | with_reducible refine vIf_f ?_)))
            (refine retK_of ?_; (repeat (first | simp (disch := omega) only [go_sem, ↓reduceIte, Nat.reduceEqDiff, Nat.reduceAdd, Nat.reduceMul, Nat.reduceSub, Int.reduceToNat, Int.reduceAdd, Int.reduceSub, Int.reduceMul, Int.reduceNeg] | with_reducible refine vIf_t ?_ | with_reducible refine vIf_f ?_)))
            try simp
        | some a =>
          rw [r1] at n1
          unfold rdR at n1
          (refine vCallX_of ?_; (repeat (first | simp (disch := omega) only [go_sem, ↓reduceIte, Nat.reduceEqDiff, Nat.reduceAdd, Nat.reduceMul, Nat.reduceSub, Int.reduceToNat, Int.reduceAdd, Int.reduceSub, Int.reduceMul, Int.reduceNeg] | with_reducible refine vIf_t ?_ | with_reducible refine vIf_f ?_)); refine vCall_eq (n1) (by simp (disch := omega) only [go_sem, Nat.reduceAdd]) rfl (by first | exact Or.inl rfl | exact Or.inr ⟨rfl, rfl⟩ | (apply Or.inr; simp only [go_sem])) ?_; (repeat (first | simp (disch := omega) only [go_sem, ↓reduceIte, Nat.reduceEqDiff, Nat.reduceAdd, Nat.reduceMul, Nat.reduceSub, Int.reduceToNat, Int.reduceAdd, Int.reduceSub, Int.reduceMul, Int.reduceNeg] | with_reducible refine vIf_t ?_ | with_reducible refine vIf_f ?_)))
          (try (repeat (first | simp (disch := omega) only [go_sem, ↓reduceIte, Nat.reduceEqDiff, Nat.reduceAdd, Nat.reduceMul, Nat.reduceSub, Int.reduceToNat, Int.reduceAdd, Int.reduceSub, Int.reduceMul, Int.reduceNeg, g1] | with_reducible refine vIf_t ?_ | with_reducible refine vIf_f ?_)))
          cases r2 : rdD y with
          | none =>
            rw [r2] at n2
            rw [fail (by rw [r1, r2])]
            unfold rdR at n2
            (refine vCallX_of ?_; (repeat (first | simp (disch := omega) only [go_sem, ↓reduceIte, Nat.reduceEqDiff, Nat.reduceAdd, Nat.reduceMul, Nat.reduceSub, Int.reduceToNat, Int.reduceAdd, Int.reduceSub, Int.reduceMul, Int.reduceNeg] | with_reducible refine vIf_t ?_ | with_reducible refine vIf_f ?_)); refine vCall_eq (n2) (by simp (disch := omega) only [go_sem, Nat.reduceAdd]) rfl (by first | exact Or.inl rfl | exact Or.inr ⟨rfl, rfl⟩ | (apply Or.inr; simp only [go_sem])) ?_; (repeat (first | simp (disch := omega) only [go_sem, ↓reduceIte, Nat.reduceEqDiff, Nat.reduceAdd, Nat.reduceMul, Nat.reduceSub, Int.reduceToNat, Int.reduceAdd, Int.reduceSub, Int.reduceMul, Int.reduceNeg] | with_reducible refine vIf_t ?_ | with_reducible refine vIf_f ?_)))
            (refine retK_of ?_; (repeat (first | simp (disch := omega) only [go_sem, ↓reduceIte, Nat.reduceEqDiff, Nat.reduceAdd, Nat.reduceMul, Nat.reduceSub, Int.reduceToNat, Int.reduceAdd, Int.reduceSub, Int.reduceMul, Int.reduceNeg] | with_reducible refine vIf_t ?_ | with_reducible refine vIf_f ?_)))
            try simp
          | some b =>
            rw [r2] at n2
            unfold rdR at n2
            (refine vCallX_of ?_; (repeat (first | simp (disch := omega) only [go_sem, ↓reduceIte, Nat.reduceEqDiff, Nat.reduceAdd, Nat.reduceMul, Nat.reduceSub, Int.reduceToNat, Int.reduceAdd, Int.reduceSub, Int.reduceMul, Int.reduceNeg] | with_reducible refine vIf_t ?_ | with_reducible refine vIf_f ?_)); refine vCall_eq (n2) (by simp (disch := omega) only [go_sem, Nat.reduceAdd]) rfl (by first | exact Or.inl rfl | exact Or.inr ⟨rfl, rfl⟩ | (apply Or.inr; simp only [go_sem])) ?_; (repeat (first | simp (disch := omega) only [go_sem, ↓reduceIte, Nat.reduceEqDiff, Nat.reduceAdd, Nat.reduceMul, Nat.reduceSub, Int.reduceToNat, Int.reduceAdd, Int.reduceSub, Int.reduceMul, Int.reduceNeg] | with_reducible refine vIf_t ?_ | with_reducible refine vIf_f ?_)))
            have hmk : mkD 0 (ps ++ [(a, b)]) = mkD 0 ps ++ [⟨a, atD (mkD 0 ps) k, b⟩] := by
              rw [mkD_snoc, mkD_last, hn]
            have hat : atD (mkD 0 (ps ++ [(a, b)])) (k + 1) = b := by
              rw [atD_succ, hmk]
              simp [gDu, ← hpl]
            refine againF (k + 1, ps ++ [(a, b)]) ⟨by simp only; omega, more (a, b) (by rw [r1, r2]), by simp [hn]⟩ (by simp only; omega) ?_
            simp only [hat]
            simp only [hmk]
            (first | (refine leF_s ?_; ((repeat (first | simp (disch := omega) only [go_sem, ↓reduceIte, Nat.reduceEqDiff, Nat.reduceAdd, Nat.reduceMul, Nat.reduceSub, Int.reduceToNat, Int.reduceAdd, Int.reduceSub, Int.reduceMul, Int.reduceNeg] | with_reducible refine vIf_t ?_ | with_reducible refine vIf_f ?_)); all_goals (try simp); all_goals (try omega)); done) | (refine leF_p ?_; ((repeat (first | simp (disch := omega) only [go_sem, ↓reduceIte, Nat.reduceEqDiff, Nat.reduceAdd, Nat.reduceMul, Nat.reduceSub, Int.reduceToNat, Int.reduceAdd, Int.reduceSub, Int.reduceMul, Int.reduceNeg] | with_reducible refine vIf_t ?_ | with_reducible refine vIf_f ?_)); all_goals (try simp); all_goals (try omega)); done))
    · have c2 : ((vs.length : Int) != 2) = true := by simp; omega
      rw [fail (by
        match vs, h2 with
        | [], _ => rfl
        | [x], _ => rfl
        | [x, y], h => exact absurd rfl h
        | x :: y :: z :: r, _ => rfl)]
      (try (repeat (first | simp (disch := omega) only [go_sem, ↓reduceIte, Nat.reduceEqDiff, Nat.reduceAdd, Nat.reduceMul, Nat.reduceSub, Int.reduceToNat, Int.reduceAdd, Int.reduceSub, Int.reduceMul, Int.reduceNeg, c2] | with_reducible refine vIf_t ?_ | with_reducible refine vIf_f ?_)))
      (refine retK_of ?_; (repeat (first | simp (disch := omega) only [go_sem, ↓reduceIte, Nat.reduceEqDiff, Nat.reduceAdd, Nat.reduceMul, Nat.reduceSub, Int.reduceToNat, Int.reduceAdd, Int.reduceSub, Int.reduceMul, Int.reduceNeg] | with_reducible refine vIf_t ?_ | with_reducible refine vIf_f ?_)))
      try simp
  · have ek : k = ws.length := by omega
    rw [ek, List.take_length] at hA
    rw [hA] at hR
    simp only at hR
    generalize hds : mkD 0 ps = ds at *
    have hv := l21Ok_ok ds L (by omega)
    rw [← hpl]
    cases e1 : vdB ds L with
    | false =>
      rw [e1] at hv hR
      rw [hR]
      (repeat (first | simp (disch := omega) only [go_sem, ↓reduceIte, Nat.reduceEqDiff, Nat.reduceAdd, Nat.reduceMul, Nat.reduceSub, Int.reduceToNat, Int.reduceAdd, Int.reduceSub, Int.reduceMul, Int.reduceNeg] | with_reducible refine vIf_t ?_ | with_reducible refine vIf_f ?_))
      (refine vCallX_of ?_; (repeat (first | simp (disch := omega) only [go_sem, ↓reduceIte, Nat.reduceEqDiff, Nat.reduceAdd, Nat.reduceMul, Nat.reduceSub, Int.reduceToNat, Int.reduceAdd, Int.reduceSub, Int.reduceMul, Int.reduceNeg] | with_reducible refine vIf_t ?_ | with_reducible refine vIf_f ?_)); refine vCall_eq (hv) (by simp (disch := omega) only [go_sem, Nat.reduceAdd]) rfl (by first | exact Or.inl rfl | exact Or.inr ⟨rfl, rfl⟩ | (apply Or.inr; simp only [go_sem])) ?_; (repeat (first | simp (disch := omega) only [go_sem, ↓reduceIte, Nat.reduceEqDiff, Nat.reduceAdd, Nat.reduceMul, Nat.reduceSub, Int.reduceToNat, Int.reduceAdd, Int.reduceSub, Int.reduceMul, Int.reduceNeg] | with_reducible refine vIf_t ?_ | with_reducible refine vIf_f ?_)))
      (refine retK_of ?_; (repeat (first | simp (disch := omega) only [go_sem, ↓reduceIte, Nat.reduceEqDiff, Nat.reduceAdd, Nat.reduceMul, Nat.reduceSub, Int.reduceToNat, Int.reduceAdd, Int.reduceSub, Int.reduceMul, Int.reduceNeg] | with_reducible refine vIf_t ?_ | with_reducible refine vIf_f ?_)))
      try simp
    | true =>
      rw [e1, if_pos rfl] at hR
      rw [e1] at hv
      rw [hR]
      (repeat (first | simp (disch := omega) only [go_sem, ↓reduceIte, Nat.reduceEqDiff, Nat.reduceAdd, Nat.reduceMul, Nat.reduceSub, Int.reduceToNat, Int.reduceAdd, Int.reduceSub, Int.reduceMul, Int.reduceNeg] | with_reducible refine vIf_t ?_ | with_reducible refine vIf_f ?_))
      (refine vCallX_of ?_; (repeat (first | simp (disch := omega) only [go_sem, ↓reduceIte, Nat.reduceEqDiff, Nat.reduceAdd, Nat.reduceMul, Nat.reduceSub, Int.reduceToNat, Int.reduceAdd, Int.reduceSub, Int.reduceMul, Int.reduceNeg] | with_reducible refine vIf_t ?_ | with_reducible refine vIf_f ?_)); refine vCall_eq (hv) (by simp (disch := omega) only [go_sem, Nat.reduceAdd]) rfl (by first | exact Or.inl rfl | exact Or.inr ⟨rfl, rfl⟩ | (apply Or.inr; simp only [go_sem])) ?_; (repeat (first | simp (disch := omega) only [go_sem, ↓reduceIte, Nat.reduceEqDiff, Nat.reduceAdd, Nat.reduceMul, Nat.reduceSub, Int.reduceToNat, Int.reduceAdd, Int.reduceSub, Int.reduceMul, Int.reduceNeg] | with_reducible refine vIf_t ?_ | with_reducible refine vIf_f ?_)))
      refine retK_frz (.step 1 ⟨3, cDu ds⟩ rfl (by (repeat (first | simp (disch := omega) only [go_sem, ↓reduceIte, Nat.reduceEqDiff, Nat.reduceAdd, Nat.reduceMul, Nat.reduceSub, Int.reduceToNat, Int.reduceAdd, Int.reduceSub, Int.reduceMul, Int.reduceNeg] | with_reducible refine vIf_t ?_ | with_reducible refine vIf_f ?_))) (.refl _)) ?_
      (repeat (first | simp (disch := omega) only [go_sem, ↓reduceIte, Nat.reduceEqDiff, Nat.reduceAdd, Nat.reduceMul, Nat.reduceSub, Int.reduceToNat, Int.reduceAdd, Int.reduceSub, Int.reduceMul, Int.reduceNeg] | with_reducible refine vIf_t ?_ | with_reducible refine vIf_f ?_))
      exact .inl rfl
end Go.Proofs.YtbbdfifpncjpnaaDoor

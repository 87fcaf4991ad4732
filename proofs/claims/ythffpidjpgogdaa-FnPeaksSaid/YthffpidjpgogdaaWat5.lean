/- the water of days over a curve: levels -/
import Derived.Test.YthffpidjpgogdaaWat4
import Derived.Test.YthffpidjpgogdaaCtl3
import Derived.Test.YthffpidjpgogdaaCurve2
set_option linter.unusedVariables false
set_option linter.unusedSimpArgs false
namespace Go.Proofs.Ythffpidjpgogdaa
open Go.AG

theorem drawLVO_e {code : List Int} (g : SrOk code) : ACalls Try.prog 59 [bS code] [] (fun r o => ∃ (c : Cv) (x : Int) (ds : List Wt), r = .tup [.agg c.cells, I x, .ref 0 0 ds.length] ∧ o = [some ⟨5, cWt ds⟩] ∧ c.lv.length ≤ 20 ∧ c.vl.length ≤ 20 ∧ ds.length ≤ 101) := by
  refine ACalls.of_vc Try.func59 rfl (by decide) 18 rfl [.cell 2 26, .tmp 3, .tmp 4] rfl (by simp) ?_
  have hf := from_e g
  unfold bS at hf ⊢
  (repeat (first | simp (maxSteps := 2000000) (disch := omega) only [go_sem, Nat.reduceEqDiff, Nat.reduceAdd, Nat.reduceMul, Nat.reduceSub, Int.reduceToNat, Int.reduceAdd, Int.reduceSub, Int.reduceMul, Int.reduceNeg] | refine vIf_t ?_ | refine vIf_f ?_))
  (refine vCallX_of ?_; (repeat (first | simp (maxSteps := 2000000) (disch := omega) only [go_sem, Nat.reduceEqDiff, Nat.reduceAdd, Nat.reduceMul, Nat.reduceSub, Int.reduceToNat, Int.reduceAdd, Int.reduceSub, Int.reduceMul, Int.reduceNeg] | refine vIf_t ?_ | refine vIf_f ?_)); refine vCall_eq (hf) (by simp (disch := omega) only [go_sem, Nat.reduceAdd]) rfl (by first | exact Or.inl rfl | exact Or.inr ⟨rfl, rfl⟩ | (apply Or.inr; simp only [go_sem])) ?_; (repeat (first | simp (maxSteps := 2000000) (disch := omega) only [go_sem, Nat.reduceEqDiff, Nat.reduceAdd, Nat.reduceMul, Nat.reduceSub, Int.reduceToNat, Int.reduceAdd, Int.reduceSub, Int.reduceMul, Int.reduceNeg] | refine vIf_t ?_ | refine vIf_f ?_)))
  (refine vCallX_io [1] ?_; (repeat (first | simp (maxSteps := 2000000) (disch := omega) only [go_sem, Nat.reduceEqDiff, Nat.reduceAdd, Nat.reduceMul, Nat.reduceSub, Int.reduceToNat, Int.reduceAdd, Int.reduceSub, Int.reduceMul, Int.reduceNeg] | refine vIf_t ?_ | refine vIf_f ?_)); refine vCallIO_ex (l05Bent_e g ⟨0, 0⟩ (by simp)) (by simp (disch := omega) only [go_sem, Nat.reduceAdd, Nat.reduceEqDiff]) (by simp (disch := omega) only [go_sem, Nat.reduceAdd, Nat.reduceEqDiff]) (by first | rfl | (simp (disch := omega) only [go_sem, Nat.reduceAdd, Nat.reduceEqDiff])) (by first | rfl | (simp (disch := omega) only [go_sem, Nat.reduceAdd, Nat.reduceEqDiff])) (by first | rfl | (simp (disch := omega) only [go_sem, Nat.reduceAdd, Nat.reduceEqDiff])) ?_); rintro _ _ ⟨lv, vl, σ1, rfl, rfl, h1, h2, h3⟩; (refine ⟨by first | (simp (disch := omega) only [go_sem, Nat.reduceAdd, Nat.reduceEqDiff]) | trivial, ?_⟩; (repeat (first | simp (maxSteps := 2000000) (disch := omega) only [go_sem, Nat.reduceEqDiff, Nat.reduceAdd, Nat.reduceMul, Nat.reduceSub, Int.reduceToNat, Int.reduceAdd, Int.reduceSub, Int.reduceMul, Int.reduceNeg] | refine vIf_t ?_ | refine vIf_f ?_)))
  simp only at h3
  (refine vCallX_fz 2 _ rfl (by (repeat (first | simp (maxSteps := 2000000) (disch := omega) only [go_sem, Nat.reduceEqDiff, Nat.reduceAdd, Nat.reduceMul, Nat.reduceSub, Int.reduceToNat, Int.reduceAdd, Int.reduceSub, Int.reduceMul, Int.reduceNeg] | refine vIf_t ?_ | refine vIf_f ?_))) ?_; (repeat (first | simp (maxSteps := 2000000) (disch := omega) only [go_sem, Nat.reduceEqDiff, Nat.reduceAdd, Nat.reduceMul, Nat.reduceSub, Int.reduceToNat, Int.reduceAdd, Int.reduceSub, Int.reduceMul, Int.reduceNeg] | refine vIf_t ?_ | refine vIf_f ?_)); refine vCallX_fz 3 _ rfl (by (repeat (first | simp (maxSteps := 2000000) (disch := omega) only [go_sem, Nat.reduceEqDiff, Nat.reduceAdd, Nat.reduceMul, Nat.reduceSub, Int.reduceToNat, Int.reduceAdd, Int.reduceSub, Int.reduceMul, Int.reduceNeg] | refine vIf_t ?_ | refine vIf_f ?_))) ?_; (repeat (first | simp (maxSteps := 2000000) (disch := omega) only [go_sem, Nat.reduceEqDiff, Nat.reduceAdd, Nat.reduceMul, Nat.reduceSub, Int.reduceToNat, Int.reduceAdd, Int.reduceSub, Int.reduceMul, Int.reduceNeg] | refine vIf_t ?_ | refine vIf_f ?_)); refine vCallX_fz 4 _ rfl (by (repeat (first | simp (maxSteps := 2000000) (disch := omega) only [go_sem, Nat.reduceEqDiff, Nat.reduceAdd, Nat.reduceMul, Nat.reduceSub, Int.reduceToNat, Int.reduceAdd, Int.reduceSub, Int.reduceMul, Int.reduceNeg] | refine vIf_t ?_ | refine vIf_f ?_))) ?_; (repeat (first | simp (maxSteps := 2000000) (disch := omega) only [go_sem, Nat.reduceEqDiff, Nat.reduceAdd, Nat.reduceMul, Nat.reduceSub, Int.reduceToNat, Int.reduceAdd, Int.reduceSub, Int.reduceMul, Int.reduceNeg] | refine vIf_t ?_ | refine vIf_f ?_)))
  (refine vCallX_io [1] ?_; (repeat (first | simp (maxSteps := 2000000) (disch := omega) only [go_sem, Nat.reduceEqDiff, Nat.reduceAdd, Nat.reduceMul, Nat.reduceSub, Int.reduceToNat, Int.reduceAdd, Int.reduceSub, Int.reduceMul, Int.reduceNeg] | refine vIf_t ?_ | refine vIf_f ?_)); refine vCallIO_ex (l05At_e g σ1 lv vl (by omega) (by omega) (by omega)) (by simp (disch := omega) only [go_sem, Nat.reduceAdd, Nat.reduceEqDiff]) (by simp (disch := omega) only [go_sem, Nat.reduceAdd, Nat.reduceEqDiff]) (by first | rfl | (simp (disch := omega) only [go_sem, Nat.reduceAdd, Nat.reduceEqDiff])) (by first | rfl | (simp (disch := omega) only [go_sem, Nat.reduceAdd, Nat.reduceEqDiff])) (by first | rfl | (simp (disch := omega) only [go_sem, Nat.reduceAdd, Nat.reduceEqDiff])) ?_); rintro _ _ ⟨x, σ2, rfl, rfl, h4⟩; (refine ⟨by first | (simp (disch := omega) only [go_sem, Nat.reduceAdd, Nat.reduceEqDiff]) | trivial, ?_⟩; (repeat (first | simp (maxSteps := 2000000) (disch := omega) only [go_sem, Nat.reduceEqDiff, Nat.reduceAdd, Nat.reduceMul, Nat.reduceSub, Int.reduceToNat, Int.reduceAdd, Int.reduceSub, Int.reduceMul, Int.reduceNeg] | refine vIf_t ?_ | refine vIf_f ?_)))
  (refine vDraw_sch 5 [(1, false), (2, false), (0, false), (3, false), (4, false)] mixed (by kernel_rfl) ?_; simp only [List.cons_append, List.nil_append, List.map_cons, List.map_nil, nthO_zero, nthO_succ, List.drop_succ_cons, List.drop_zero, List.drop_nil]; (repeat (first | simp (maxSteps := 2000000) (disch := omega) only [go_sem, Nat.reduceEqDiff, Nat.reduceAdd, Nat.reduceMul, Nat.reduceSub, Int.reduceToNat, Int.reduceAdd, Int.reduceSub, Int.reduceMul, Int.reduceNeg] | refine vIf_t ?_ | refine vIf_f ?_)))
  (refine vsCallX_io [1] (by simp [disj]) ?_; (try (repeat (first | simp (maxSteps := 2000000) (disch := omega) only [go_sem, Nat.reduceEqDiff, Nat.reduceAdd, Nat.reduceMul, Nat.reduceSub, Int.reduceToNat, Int.reduceAdd, Int.reduceSub, Int.reduceMul, Int.reduceNeg] | refine vIf_t ?_ | refine vIf_f ?_))); refine vCallIO_ex (l13Bent_e g σ2 (by omega)) (by simp (disch := omega) only [go_sem, Nat.reduceAdd, Nat.reduceEqDiff]) (by simp (disch := omega) only [go_sem, Nat.reduceAdd, Nat.reduceEqDiff]) (by first | rfl | (simp (disch := omega) only [go_sem, Nat.reduceAdd, Nat.reduceEqDiff])) (by first | rfl | (simp (disch := omega) only [go_sem, Nat.reduceAdd, Nat.reduceEqDiff])) (by first | rfl | (simp (disch := omega) only [go_sem, Nat.reduceAdd, Nat.reduceEqDiff])) ?_); rintro _ _ ⟨ds, σ3, rfl, rfl, h5, h6⟩; (refine ⟨by first | (simp (disch := omega) only [go_sem, Nat.reduceAdd, Nat.reduceEqDiff]) | trivial, ?_⟩; (try (repeat (first | simp (maxSteps := 2000000) (disch := omega) only [go_sem, Nat.reduceEqDiff, Nat.reduceAdd, Nat.reduceMul, Nat.reduceSub, Int.reduceToNat, Int.reduceAdd, Int.reduceSub, Int.reduceMul, Int.reduceNeg] | refine vIf_t ?_ | refine vIf_f ?_))))
  (try (repeat (first | simp (maxSteps := 2000000) (disch := omega) only [go_sem, Nat.reduceEqDiff, Nat.reduceAdd, Nat.reduceMul, Nat.reduceSub, Int.reduceToNat, Int.reduceAdd, Int.reduceSub, Int.reduceMul, Int.reduceNeg] | refine vIf_t ?_ | refine vIf_f ?_)))
  (refine retK_of ?_; (repeat (first | simp (maxSteps := 2000000) (disch := omega) only [go_sem, Nat.reduceEqDiff, Nat.reduceAdd, Nat.reduceMul, Nat.reduceSub, Int.reduceToNat, Int.reduceAdd, Int.reduceSub, Int.reduceMul, Int.reduceNeg] | refine vIf_t ?_ | refine vIf_f ?_)))
  exact ⟨⟨lv, vl⟩, x, ds, rfl, rfl, h1, h2, h5⟩
theorem vlm_bd {c : Cv} (f : CvF c) (x : Int) (h : inC c x) : 0 ≤ vlm c x ∧ vlm c x ≤ gi c.vl (c.lv.length - 1) := by
  have h1 := vlm_mono f (lo' c) x (Int.le_refl _) h.1 h.2
  have h2 := vlm_mono f x (hi' c) h.1 h.2 (Int.le_refl _)
  rw [vlm_lo f] at h1
  rw [vlm_hi f] at h2
  exact ⟨h1, h2⟩
noncomputable def lvL (c : Cv) (v : Int) (ds : List Wt) : Nat → List Int := fun k => (List.range k).map fun j => lvx c (vsK v ds (j + 1))
theorem lvL_zero (c : Cv) (v : Int) (ds : List Wt) : lvL c v ds 0 = [] := rfl
theorem lvL_succ (c : Cv) (v : Int) (ds : List Wt) (k : Nat) : lvL c v ds (k + 1) = lvL c v ds k ++ [lvx c (vsK v ds (k + 1))] := by
  simp [lvL, List.range_succ]
theorem lvL_len (c : Cv) (v : Int) (ds : List Wt) (k : Nat) : (lvL c v ds k).length = k := by simp [lvL]
theorem lvL_get (c : Cv) (v : Int) (ds : List Wt) (k j : Nat) (h : j < k) : gi (lvL c v ds k) j = lvx c (vsK v ds (j + 1)) := by
  simp [lvL, gi, h]
/-- a volume that no level has -/
def lvQ (c : Cv) (v : Int) (ds : List Wt) (j : Nat) : Bool := decide (vsK v ds (j + 1) < 0 ∨ gi c.vl (c.lv.length - 1) < vsK v ds (j + 1))
noncomputable def loC (c : Cv) (x : Int) (ds : List Wt) : Int :=
  if ds.all wtB = true ∧ okC c = true then if ds.length ≤ 100 ∧ inC c x then (match fstN ds.length (lvQ c (vlm c x) ds) with
    | some k => if vsK (vlm c x) ds (k + 1) < 0 then 6 else 10
    | none => 0) else 2 else 1
noncomputable def loL (c : Cv) (x : Int) (ds : List Wt) : List Int := if loC c x ds = 0 then lvL c (vlm c x) ds ds.length else []
theorem loC_0 {c : Cv} {x : Int} {ds : List Wt} (h : loC c x ds = 0) : ds.all wtB = true ∧ okC c = true ∧ ds.length ≤ 100 ∧ inC c x ∧ ∀ j, j < ds.length → lvQ c (vlm c x) ds j = false := by
  unfold loC at h
  split at h
  · rename_i h1
    split at h
    · rename_i h2
      split at h
      · split at h <;> omega
      · rename_i h3
        exact ⟨h1.1, h1.2, h2.1, h2.2, fun j hj => fstN_of_none h3 j hj⟩
    · omega
  · omega
theorem loC_some {c : Cv} {x : Int} {ds : List Wt} (h1 : ds.all wtB = true) (h2 : okC c = true) (h3 : ds.length ≤ 100) (h4 : inC c x) {k : Nat} (hk : k < ds.length) (hq : lvQ c (vlm c x) ds k = true) (hn : ∀ j, j < k → lvQ c (vlm c x) ds j = false) :
    loC c x ds = if vsK (vlm c x) ds (k + 1) < 0 then 6 else 10 := by
  rw [loC, if_pos ⟨h1, h2⟩, if_pos ⟨h3, h4⟩, fstN_some hk hq hn]
theorem loC_none {c : Cv} {x : Int} {ds : List Wt} (h1 : ds.all wtB = true) (h2 : okC c = true) (h3 : ds.length ≤ 100) (h4 : inC c x) (hn : ∀ j, j < ds.length → lvQ c (vlm c x) ds j = false) : loC c x ds = 0 := by
  rw [loC, if_pos ⟨h1, h2⟩, if_pos ⟨h3, h4⟩, fstN_none hn]
set_option maxRecDepth 20000 in
set_option maxHeartbeats 8000000 in
theorem levelsOver_ok (c : Cv) (x : Int) (ds : List Wt) (hl : ds.length ≤ 10000000) (hcl : c.lv.length ≤ 10000000) (hcv : c.vl.length ≤ 10000000) : ACalls Try.prog 60 [.agg c.cells, I x, .sl ds.length (cWt ds)] [] (fun r o => r = .tup [iS (loL c x ds), I (loC c x ds)] ∧ o = []) := by
  refine ACalls.of_vc Try.func60 rfl (by decide) 62 rfl [.tmp 6, .tmp 7] rfl (by simp) ?_
  have ha := allWt_ok 154 [] wtB ds (fun x _ => validWt_ok x) rfl hl
  have hc := validC_ok c hcl hcv
  unfold Cv.cells at hc ⊢
  have err : ∀ n : Int, loC c x ds = n → n ≠ 0 → loL c x ds = [] := fun n h1 h2 => by rw [loL, if_neg (by omega)]
  (repeat (first | simp (maxSteps := 2000000) (disch := omega) only [go_sem, Nat.reduceEqDiff, Nat.reduceAdd, Nat.reduceMul, Nat.reduceSub, Int.reduceToNat, Int.reduceAdd, Int.reduceSub, Int.reduceMul, Int.reduceNeg] | refine vIf_t ?_ | refine vIf_f ?_))
  (refine vCallX_of ?_; (repeat (first | simp (maxSteps := 2000000) (disch := omega) only [go_sem, Nat.reduceEqDiff, Nat.reduceAdd, Nat.reduceMul, Nat.reduceSub, Int.reduceToNat, Int.reduceAdd, Int.reduceSub, Int.reduceMul, Int.reduceNeg] | refine vIf_t ?_ | refine vIf_f ?_)); refine vCall_eq (ha) (by simp (disch := omega) only [go_sem, Nat.reduceAdd]) rfl (by first | exact Or.inl rfl | exact Or.inr ⟨rfl, rfl⟩ | (apply Or.inr; simp only [go_sem])) ?_; (repeat (first | simp (maxSteps := 2000000) (disch := omega) only [go_sem, Nat.reduceEqDiff, Nat.reduceAdd, Nat.reduceMul, Nat.reduceSub, Int.reduceToNat, Int.reduceAdd, Int.reduceSub, Int.reduceMul, Int.reduceNeg] | refine vIf_t ?_ | refine vIf_f ?_)))
  cases h1 : ds.all wtB with
  | false =>
    have e : loC c x ds = 1 := by rw [loC, if_neg (by simp [h1])]
    (try (repeat (first | simp (maxSteps := 2000000) (disch := omega) only [go_sem, Nat.reduceEqDiff, Nat.reduceAdd, Nat.reduceMul, Nat.reduceSub, Int.reduceToNat, Int.reduceAdd, Int.reduceSub, Int.reduceMul, Int.reduceNeg, h1] | refine vIf_t ?_ | refine vIf_f ?_)))
    refine retK_frz (.step 1 ⟨1, ints []⟩ rfl (by (repeat (first | simp (maxSteps := 2000000) (disch := omega) only [go_sem, Nat.reduceEqDiff, Nat.reduceAdd, Nat.reduceMul, Nat.reduceSub, Int.reduceToNat, Int.reduceAdd, Int.reduceSub, Int.reduceMul, Int.reduceNeg] | refine vIf_t ?_ | refine vIf_f ?_))) (.refl _)) ?_
    (repeat (first | simp (maxSteps := 2000000) (disch := omega) only [go_sem, Nat.reduceEqDiff, Nat.reduceAdd, Nat.reduceMul, Nat.reduceSub, Int.reduceToNat, Int.reduceAdd, Int.reduceSub, Int.reduceMul, Int.reduceNeg] | refine vIf_t ?_ | refine vIf_f ?_))
    rw [err 1 e (by omega), e]
    rfl
  | true =>
  (repeat (first | simp (maxSteps := 2000000) (disch := omega) only [go_sem, Nat.reduceEqDiff, Nat.reduceAdd, Nat.reduceMul, Nat.reduceSub, Int.reduceToNat, Int.reduceAdd, Int.reduceSub, Int.reduceMul, Int.reduceNeg, h1] | refine vIf_t ?_ | refine vIf_f ?_))
  (refine vCallX_of ?_; (repeat (first | simp (maxSteps := 2000000) (disch := omega) only [go_sem, Nat.reduceEqDiff, Nat.reduceAdd, Nat.reduceMul, Nat.reduceSub, Int.reduceToNat, Int.reduceAdd, Int.reduceSub, Int.reduceMul, Int.reduceNeg] | refine vIf_t ?_ | refine vIf_f ?_)); refine vCall_eq (hc) (by simp (disch := omega) only [go_sem, Nat.reduceAdd]) rfl (by first | exact Or.inl rfl | exact Or.inr ⟨rfl, rfl⟩ | (apply Or.inr; simp only [go_sem])) ?_; (repeat (first | simp (maxSteps := 2000000) (disch := omega) only [go_sem, Nat.reduceEqDiff, Nat.reduceAdd, Nat.reduceMul, Nat.reduceSub, Int.reduceToNat, Int.reduceAdd, Int.reduceSub, Int.reduceMul, Int.reduceNeg] | refine vIf_t ?_ | refine vIf_f ?_)))
  cases hok : okC c with
  | false =>
    have e : loC c x ds = 1 := by rw [loC, if_neg (by simp [hok])]
    (try (repeat (first | simp (maxSteps := 2000000) (disch := omega) only [go_sem, Nat.reduceEqDiff, Nat.reduceAdd, Nat.reduceMul, Nat.reduceSub, Int.reduceToNat, Int.reduceAdd, Int.reduceSub, Int.reduceMul, Int.reduceNeg, hok] | refine vIf_t ?_ | refine vIf_f ?_)))
    refine retK_frz (.step 1 ⟨1, ints []⟩ rfl (by (repeat (first | simp (maxSteps := 2000000) (disch := omega) only [go_sem, Nat.reduceEqDiff, Nat.reduceAdd, Nat.reduceMul, Nat.reduceSub, Int.reduceToNat, Int.reduceAdd, Int.reduceSub, Int.reduceMul, Int.reduceNeg] | refine vIf_t ?_ | refine vIf_f ?_))) (.refl _)) ?_
    (repeat (first | simp (maxSteps := 2000000) (disch := omega) only [go_sem, Nat.reduceEqDiff, Nat.reduceAdd, Nat.reduceMul, Nat.reduceSub, Int.reduceToNat, Int.reduceAdd, Int.reduceSub, Int.reduceMul, Int.reduceNeg] | refine vIf_t ?_ | refine vIf_f ?_))
    rw [err 1 e (by omega), e]
    rfl
  | true =>
  have f := okC_f hok
  have hvn := f.vn
  have h12 := f.n12
  have h2n := f.n2
  have hi := isOn_ok c x f
  have hla := last_ok c.vl (by omega)
  have htop := f.vb (c.lv.length - 1) (by omega)
  rw [show gi c.vl (c.vl.length - 1) = gi c.vl (c.lv.length - 1) by rw [hvn]] at hla
  unfold Cv.cells at hi
  (repeat (first | simp (maxSteps := 2000000) (disch := omega) only [go_sem, Nat.reduceEqDiff, Nat.reduceAdd, Nat.reduceMul, Nat.reduceSub, Int.reduceToNat, Int.reduceAdd, Int.reduceSub, Int.reduceMul, Int.reduceNeg, hok] | refine vIf_t ?_ | refine vIf_f ?_))
  by_cases h2 : 100 < (ds.length : Int)
  · have h2b : decide (100 < (ds.length : Int)) = true := decide_eq_true h2
    have e : loC c x ds = 2 := by rw [loC, if_pos ⟨h1, hok⟩, if_neg (by omega)]
    (try (repeat (first | simp (maxSteps := 2000000) (disch := omega) only [go_sem, Nat.reduceEqDiff, Nat.reduceAdd, Nat.reduceMul, Nat.reduceSub, Int.reduceToNat, Int.reduceAdd, Int.reduceSub, Int.reduceMul, Int.reduceNeg, h2b] | refine vIf_t ?_ | refine vIf_f ?_)))
    refine retK_frz (.step 1 ⟨1, ints []⟩ rfl (by (repeat (first | simp (maxSteps := 2000000) (disch := omega) only [go_sem, Nat.reduceEqDiff, Nat.reduceAdd, Nat.reduceMul, Nat.reduceSub, Int.reduceToNat, Int.reduceAdd, Int.reduceSub, Int.reduceMul, Int.reduceNeg] | refine vIf_t ?_ | refine vIf_f ?_))) (.refl _)) ?_
    (repeat (first | simp (maxSteps := 2000000) (disch := omega) only [go_sem, Nat.reduceEqDiff, Nat.reduceAdd, Nat.reduceMul, Nat.reduceSub, Int.reduceToNat, Int.reduceAdd, Int.reduceSub, Int.reduceMul, Int.reduceNeg] | refine vIf_t ?_ | refine vIf_f ?_))
    rw [err 2 e (by omega), e]
    rfl
  have h2b : decide (100 < (ds.length : Int)) = false := decide_eq_false h2
  (repeat (first | simp (maxSteps := 2000000) (disch := omega) only [go_sem, Nat.reduceEqDiff, Nat.reduceAdd, Nat.reduceMul, Nat.reduceSub, Int.reduceToNat, Int.reduceAdd, Int.reduceSub, Int.reduceMul, Int.reduceNeg, h2b] | refine vIf_t ?_ | refine vIf_f ?_))
  (refine vCallX_of ?_; (repeat (first | simp (maxSteps := 2000000) (disch := omega) only [go_sem, Nat.reduceEqDiff, Nat.reduceAdd, Nat.reduceMul, Nat.reduceSub, Int.reduceToNat, Int.reduceAdd, Int.reduceSub, Int.reduceMul, Int.reduceNeg] | refine vIf_t ?_ | refine vIf_f ?_)); refine vCall_eq (hi) (by simp (disch := omega) only [go_sem, Nat.reduceAdd]) rfl (by first | exact Or.inl rfl | exact Or.inr ⟨rfl, rfl⟩ | (apply Or.inr; simp only [go_sem])) ?_; (repeat (first | simp (maxSteps := 2000000) (disch := omega) only [go_sem, Nat.reduceEqDiff, Nat.reduceAdd, Nat.reduceMul, Nat.reduceSub, Int.reduceToNat, Int.reduceAdd, Int.reduceSub, Int.reduceMul, Int.reduceNeg] | refine vIf_t ?_ | refine vIf_f ?_)))
  by_cases h3 : inC c x
  rotate_left
  · have h3b : decide (inC c x) = false := decide_eq_false h3
    have e : loC c x ds = 2 := by rw [loC, if_pos ⟨h1, hok⟩, if_neg (by intro h; exact h3 h.2)]
    (try (repeat (first | simp (maxSteps := 2000000) (disch := omega) only [go_sem, Nat.reduceEqDiff, Nat.reduceAdd, Nat.reduceMul, Nat.reduceSub, Int.reduceToNat, Int.reduceAdd, Int.reduceSub, Int.reduceMul, Int.reduceNeg, h3b] | refine vIf_t ?_ | refine vIf_f ?_)))
    refine retK_frz (.step 1 ⟨1, ints []⟩ rfl (by (repeat (first | simp (maxSteps := 2000000) (disch := omega) only [go_sem, Nat.reduceEqDiff, Nat.reduceAdd, Nat.reduceMul, Nat.reduceSub, Int.reduceToNat, Int.reduceAdd, Int.reduceSub, Int.reduceMul, Int.reduceNeg] | refine vIf_t ?_ | refine vIf_f ?_))) (.refl _)) ?_
    (repeat (first | simp (maxSteps := 2000000) (disch := omega) only [go_sem, Nat.reduceEqDiff, Nat.reduceAdd, Nat.reduceMul, Nat.reduceSub, Int.reduceToNat, Int.reduceAdd, Int.reduceSub, Int.reduceMul, Int.reduceNeg] | refine vIf_t ?_ | refine vIf_f ?_))
    rw [err 2 e (by omega), e]
    rfl
  have h3b : decide (inC c x) = true := decide_eq_true h3
  have hvo := volume_ok c x f h3
  have hvb := vlm_bd f x h3
  have hvs := volumes_ok (vlm c x) ds h1 (by omega) (by omega)
  unfold Cv.cells at hvo
  (repeat (first | simp (maxSteps := 2000000) (disch := omega) only [go_sem, Nat.reduceEqDiff, Nat.reduceAdd, Nat.reduceMul, Nat.reduceSub, Int.reduceToNat, Int.reduceAdd, Int.reduceSub, Int.reduceMul, Int.reduceNeg, h3b] | refine vIf_t ?_ | refine vIf_f ?_))
  (refine vCallX_of ?_; (repeat (first | simp (maxSteps := 2000000) (disch := omega) only [go_sem, Nat.reduceEqDiff, Nat.reduceAdd, Nat.reduceMul, Nat.reduceSub, Int.reduceToNat, Int.reduceAdd, Int.reduceSub, Int.reduceMul, Int.reduceNeg] | refine vIf_t ?_ | refine vIf_f ?_)); refine vCall_eq (hvo) (by simp (disch := omega) only [go_sem, Nat.reduceAdd]) rfl (by first | exact Or.inl rfl | exact Or.inr ⟨rfl, rfl⟩ | (apply Or.inr; simp only [go_sem])) ?_; (repeat (first | simp (maxSteps := 2000000) (disch := omega) only [go_sem, Nat.reduceEqDiff, Nat.reduceAdd, Nat.reduceMul, Nat.reduceSub, Int.reduceToNat, Int.reduceAdd, Int.reduceSub, Int.reduceMul, Int.reduceNeg] | refine vIf_t ?_ | refine vIf_f ?_)))
  (refine vCallX_of ?_; (repeat (first | simp (maxSteps := 2000000) (disch := omega) only [go_sem, Nat.reduceEqDiff, Nat.reduceAdd, Nat.reduceMul, Nat.reduceSub, Int.reduceToNat, Int.reduceAdd, Int.reduceSub, Int.reduceMul, Int.reduceNeg] | refine vIf_t ?_ | refine vIf_f ?_)); refine vCall_eq (hvs) (by simp (disch := omega) only [go_sem, Nat.reduceAdd]) rfl (by first | exact Or.inl rfl | exact Or.inr ⟨rfl, rfl⟩ | (apply Or.inr; simp only [go_sem])) ?_; (repeat (first | simp (maxSteps := 2000000) (disch := omega) only [go_sem, Nat.reduceEqDiff, Nat.reduceAdd, Nat.reduceMul, Nat.reduceSub, Int.reduceToNat, Int.reduceAdd, Int.reduceSub, Int.reduceMul, Int.reduceNeg] | refine vIf_t ?_ | refine vIf_f ?_)))
  refine vcLoop_invF (fun k : Nat => k ≤ ds.length ∧ ∀ j, j < k → lvQ c (vlm c x) ds j = false) (fun k => ⟨62, 0, [(39, I k), (3, .ptr 0 0), (8, .ref 1 0 k), (37, .ref 2 0 ds.length), (38, I ds.length)], [some ⟨2, [.sl c.lv.length (ints c.lv), .sl c.vl.length (ints c.vl)]⟩, oI (lvL c (vlm c x) ds k), oI (vlK (vlm c x) ds ds.length)]⟩) (fun k => ds.length - k) 0 ⟨by omega, fun j hj => by omega⟩ (by simp only [lvL_zero]; (first | (refine leF_s ?_; ((repeat (first | simp (maxSteps := 2000000) (disch := omega) only [go_sem, Nat.reduceEqDiff, Nat.reduceAdd, Nat.reduceMul, Nat.reduceSub, Int.reduceToNat, Int.reduceAdd, Int.reduceSub, Int.reduceMul, Int.reduceNeg] | refine vIf_t ?_ | refine vIf_f ?_)); all_goals (try simp); all_goals (try omega)); done) | (refine leF_p ?_; ((repeat (first | simp (maxSteps := 2000000) (disch := omega) only [go_sem, Nat.reduceEqDiff, Nat.reduceAdd, Nat.reduceMul, Nat.reduceSub, Int.reduceToNat, Int.reduceAdd, Int.reduceSub, Int.reduceMul, Int.reduceNeg] | refine vIf_t ?_ | refine vIf_f ?_)); all_goals (try simp); all_goals (try omega)); done))) ?_
  intro k ⟨hk, hn⟩
  have hlen := lvL_len c (vlm c x) ds k
  have hlen2 := vlK_len (vlm c x) ds ds.length
  have hget := vlK_get (vlm c x) ds ds.length k
  (repeat (first | simp (maxSteps := 2000000) (disch := omega) only [go_sem, Nat.reduceEqDiff, Nat.reduceAdd, Nat.reduceMul, Nat.reduceSub, Int.reduceToNat, Int.reduceAdd, Int.reduceSub, Int.reduceMul, Int.reduceNeg] | refine vIf_t ?_ | refine vIf_f ?_))
  refine vIf_dec (fun h5 => ?_) (fun h5 => ?_)
  · have hg := hget (by omega)
    (repeat (first | simp (maxSteps := 2000000) (disch := omega) only [go_sem, Nat.reduceEqDiff, Nat.reduceAdd, Nat.reduceMul, Nat.reduceSub, Int.reduceToNat, Int.reduceAdd, Int.reduceSub, Int.reduceMul, Int.reduceNeg, hg] | refine vIf_t ?_ | refine vIf_f ?_))
    refine vIf_dec (fun h6 => ?_) (fun h6 => ?_)
    · have e := loC_some h1 hok (by omega) h3 (show k < ds.length by omega) (decide_eq_true (.inl h6)) hn
      rw [if_pos h6] at e
      (repeat (first | simp (maxSteps := 2000000) (disch := omega) only [go_sem, Nat.reduceEqDiff, Nat.reduceAdd, Nat.reduceMul, Nat.reduceSub, Int.reduceToNat, Int.reduceAdd, Int.reduceSub, Int.reduceMul, Int.reduceNeg] | refine vIf_t ?_ | refine vIf_f ?_))
      refine retK_frz (.step 3 ⟨1, ints []⟩ rfl (by (repeat (first | simp (maxSteps := 2000000) (disch := omega) only [go_sem, Nat.reduceEqDiff, Nat.reduceAdd, Nat.reduceMul, Nat.reduceSub, Int.reduceToNat, Int.reduceAdd, Int.reduceSub, Int.reduceMul, Int.reduceNeg] | refine vIf_t ?_ | refine vIf_f ?_))) (.refl _)) ?_
      (repeat (first | simp (maxSteps := 2000000) (disch := omega) only [go_sem, Nat.reduceEqDiff, Nat.reduceAdd, Nat.reduceMul, Nat.reduceSub, Int.reduceToNat, Int.reduceAdd, Int.reduceSub, Int.reduceMul, Int.reduceNeg] | refine vIf_t ?_ | refine vIf_f ?_))
      rw [err 6 e (by omega), e]
      rfl
    · (repeat (first | simp (maxSteps := 2000000) (disch := omega) only [go_sem, Nat.reduceEqDiff, Nat.reduceAdd, Nat.reduceMul, Nat.reduceSub, Int.reduceToNat, Int.reduceAdd, Int.reduceSub, Int.reduceMul, Int.reduceNeg] | refine vIf_t ?_ | refine vIf_f ?_))
      (refine vCallX_of ?_; (repeat (first | simp (maxSteps := 2000000) (disch := omega) only [go_sem, Nat.reduceEqDiff, Nat.reduceAdd, Nat.reduceMul, Nat.reduceSub, Int.reduceToNat, Int.reduceAdd, Int.reduceSub, Int.reduceMul, Int.reduceNeg] | refine vIf_t ?_ | refine vIf_f ?_)); refine vCall_eq (hla) (by simp (disch := omega) only [go_sem, Nat.reduceAdd]) rfl (by first | exact Or.inl rfl | exact Or.inr ⟨rfl, rfl⟩ | (apply Or.inr; simp only [go_sem])) ?_; (repeat (first | simp (maxSteps := 2000000) (disch := omega) only [go_sem, Nat.reduceEqDiff, Nat.reduceAdd, Nat.reduceMul, Nat.reduceSub, Int.reduceToNat, Int.reduceAdd, Int.reduceSub, Int.reduceMul, Int.reduceNeg] | refine vIf_t ?_ | refine vIf_f ?_)))
      refine vIf_dec (fun h7 => ?_) (fun h7 => ?_)
      · have e := loC_some h1 hok (by omega) h3 (show k < ds.length by omega) (decide_eq_true (.inr h7)) hn
        rw [if_neg h6] at e
        (repeat (first | simp (maxSteps := 2000000) (disch := omega) only [go_sem, Nat.reduceEqDiff, Nat.reduceAdd, Nat.reduceMul, Nat.reduceSub, Int.reduceToNat, Int.reduceAdd, Int.reduceSub, Int.reduceMul, Int.reduceNeg] | refine vIf_t ?_ | refine vIf_f ?_))
        refine retK_frz (.step 3 ⟨1, ints []⟩ rfl (by (repeat (first | simp (maxSteps := 2000000) (disch := omega) only [go_sem, Nat.reduceEqDiff, Nat.reduceAdd, Nat.reduceMul, Nat.reduceSub, Int.reduceToNat, Int.reduceAdd, Int.reduceSub, Int.reduceMul, Int.reduceNeg] | refine vIf_t ?_ | refine vIf_f ?_))) (.refl _)) ?_
        (repeat (first | simp (maxSteps := 2000000) (disch := omega) only [go_sem, Nat.reduceEqDiff, Nat.reduceAdd, Nat.reduceMul, Nat.reduceSub, Int.reduceToNat, Int.reduceAdd, Int.reduceSub, Int.reduceMul, Int.reduceNeg] | refine vIf_t ?_ | refine vIf_f ?_))
        rw [err 10 e (by omega), e]
        rfl
      · have hlx := levx_ok c (vsK (vlm c x) ds (k + 1)) f (by omega)
        unfold Cv.cells at hlx
        (repeat (first | simp (maxSteps := 2000000) (disch := omega) only [go_sem, Nat.reduceEqDiff, Nat.reduceAdd, Nat.reduceMul, Nat.reduceSub, Int.reduceToNat, Int.reduceAdd, Int.reduceSub, Int.reduceMul, Int.reduceNeg] | refine vIf_t ?_ | refine vIf_f ?_))
        (refine vCallX_of ?_; (repeat (first | simp (maxSteps := 2000000) (disch := omega) only [go_sem, Nat.reduceEqDiff, Nat.reduceAdd, Nat.reduceMul, Nat.reduceSub, Int.reduceToNat, Int.reduceAdd, Int.reduceSub, Int.reduceMul, Int.reduceNeg] | refine vIf_t ?_ | refine vIf_f ?_)); refine vCall_eq (hlx) (by simp (disch := omega) only [go_sem, Nat.reduceAdd]) rfl (by first | exact Or.inl rfl | exact Or.inr ⟨rfl, rfl⟩ | (apply Or.inr; simp only [go_sem])) ?_; (repeat (first | simp (maxSteps := 2000000) (disch := omega) only [go_sem, Nat.reduceEqDiff, Nat.reduceAdd, Nat.reduceMul, Nat.reduceSub, Int.reduceToNat, Int.reduceAdd, Int.reduceSub, Int.reduceMul, Int.reduceNeg] | refine vIf_t ?_ | refine vIf_f ?_)))
        refine againF (k + 1) ⟨by omega, fun j hj => ?_⟩ (by omega) ?_
        · by_cases e : j = k
          · subst e; exact decide_eq_false (by omega)
          · exact hn j (by omega)
        · simp only [lvL_succ]
          (first | (refine leF_s ?_; ((repeat (first | simp (maxSteps := 2000000) (disch := omega) only [go_sem, Nat.reduceEqDiff, Nat.reduceAdd, Nat.reduceMul, Nat.reduceSub, Int.reduceToNat, Int.reduceAdd, Int.reduceSub, Int.reduceMul, Int.reduceNeg] | refine vIf_t ?_ | refine vIf_f ?_)); all_goals (try simp); all_goals (try omega)); done) | (refine leF_p ?_; ((repeat (first | simp (maxSteps := 2000000) (disch := omega) only [go_sem, Nat.reduceEqDiff, Nat.reduceAdd, Nat.reduceMul, Nat.reduceSub, Int.reduceToNat, Int.reduceAdd, Int.reduceSub, Int.reduceMul, Int.reduceNeg] | refine vIf_t ?_ | refine vIf_f ?_)); all_goals (try simp); all_goals (try omega)); done))
  · have e := loC_none h1 hok (by omega) h3 (fun j hj => hn j (by omega))
    (repeat (first | simp (maxSteps := 2000000) (disch := omega) only [go_sem, Nat.reduceEqDiff, Nat.reduceAdd, Nat.reduceMul, Nat.reduceSub, Int.reduceToNat, Int.reduceAdd, Int.reduceSub, Int.reduceMul, Int.reduceNeg] | refine vIf_t ?_ | refine vIf_f ?_))
    refine retK_frz (.step 1 ⟨1, ints (lvL c (vlm c x) ds k)⟩ rfl (by (repeat (first | simp (maxSteps := 2000000) (disch := omega) only [go_sem, Nat.reduceEqDiff, Nat.reduceAdd, Nat.reduceMul, Nat.reduceSub, Int.reduceToNat, Int.reduceAdd, Int.reduceSub, Int.reduceMul, Int.reduceNeg] | refine vIf_t ?_ | refine vIf_f ?_))) (.refl _)) ?_
    (repeat (first | simp (maxSteps := 2000000) (disch := omega) only [go_sem, Nat.reduceEqDiff, Nat.reduceAdd, Nat.reduceMul, Nat.reduceSub, Int.reduceToNat, Int.reduceAdd, Int.reduceSub, Int.reduceMul, Int.reduceNeg] | refine vIf_t ?_ | refine vIf_f ?_))
    rw [loL, if_pos e, e, show k = ds.length by omega]
    simp [iS, lvL_len]
theorem levxS_ok (c : Cv) (v : Int) (f : CvF c) (hv : v ≤ gi c.vl (c.lv.length - 1)) : ACalls Try.prog 104 [.ip c.cells 0, I v] [] (fun r o => r = I (lvx c v) ∧ o = []) :=
  (l05Level_ok c v f hv).mono fun r o ⟨x, h1, h2, h3⟩ => ⟨by rw [h2, lvx_eq f h1], h3⟩
set_option maxRecDepth 20000 in
set_option maxHeartbeats 8000000 in
theorem levelsOverS_ok (c : Cv) (x : Int) (ds : List Wt) (hl : ds.length ≤ 10000000) (hcl : c.lv.length ≤ 10000000) (hcv : c.vl.length ≤ 10000000) : ACalls Try.prog 61 [.agg c.cells, I x, .sl ds.length (cWt ds)] [] (fun r o => r = .tup [iS (loL c x ds), I (loC c x ds)] ∧ o = []) := by
  refine ACalls.leT (Q := fun r o => (r = .tup [iS (loL c x ds), I (loC c x ds)] ∧ o = []) ∨ (r = .tup [nilS, I (loC c x ds)] ∧ loL c x ds = [] ∧ o = [])) ?_ ?_
  rotate_left
  · intro r o hq
    rcases hq with ⟨rfl, rfl⟩ | ⟨rfl, h, rfl⟩
    · exact ⟨_, leR_refl _, rfl, rfl⟩
    · rw [h]; exact ⟨_, leR_nil2 _, rfl, rfl⟩
  refine ACalls.of_vc Try.func61 rfl (by decide) 62 rfl [.tmp 6, .tmp 7] rfl (by simp) ?_
  have hc := l05Code_ok c x hcl hcv
  have ha := l13List_ok ds hl
  unfold Cv.cells at hc ⊢
  have err : ∀ n : Int, loC c x ds = n → n ≠ 0 → loL c x ds = [] := fun n h1 h2 => by rw [loL, if_neg (by omega)]
  have hv1 : vaC c x = 1 ↔ okC c = false := by
    unfold vaC
    cases okC c with
    | false => simp
    | true => simp; split <;> omega
  have hr1 : rcW ds 0 = 1 ↔ ds.all wtB = false := by
    unfold rcW
    cases ds.all wtB with
    | false => simp
    | true => simp; split <;> omega
  (repeat (first | simp (maxSteps := 2000000) (disch := omega) only [go_sem, Nat.reduceEqDiff, Nat.reduceAdd, Nat.reduceMul, Nat.reduceSub, Int.reduceToNat, Int.reduceAdd, Int.reduceSub, Int.reduceMul, Int.reduceNeg] | refine vIf_t ?_ | refine vIf_f ?_))
  (refine vCallX_of ?_; (repeat (first | simp (maxSteps := 2000000) (disch := omega) only [go_sem, Nat.reduceEqDiff, Nat.reduceAdd, Nat.reduceMul, Nat.reduceSub, Int.reduceToNat, Int.reduceAdd, Int.reduceSub, Int.reduceMul, Int.reduceNeg] | refine vIf_t ?_ | refine vIf_f ?_)); refine vCall_eq (hc) (by simp (disch := omega) only [go_sem, Nat.reduceAdd]) rfl (by first | exact Or.inl rfl | exact Or.inr ⟨rfl, rfl⟩ | (apply Or.inr; simp only [go_sem])) ?_; (repeat (first | simp (maxSteps := 2000000) (disch := omega) only [go_sem, Nat.reduceEqDiff, Nat.reduceAdd, Nat.reduceMul, Nat.reduceSub, Int.reduceToNat, Int.reduceAdd, Int.reduceSub, Int.reduceMul, Int.reduceNeg] | refine vIf_t ?_ | refine vIf_f ?_)))
  (refine vCallX_of ?_; (repeat (first | simp (maxSteps := 2000000) (disch := omega) only [go_sem, Nat.reduceEqDiff, Nat.reduceAdd, Nat.reduceMul, Nat.reduceSub, Int.reduceToNat, Int.reduceAdd, Int.reduceSub, Int.reduceMul, Int.reduceNeg] | refine vIf_t ?_ | refine vIf_f ?_)); refine vCall_eq (ha) (by simp (disch := omega) only [go_sem, Nat.reduceAdd]) rfl (by first | exact Or.inl rfl | exact Or.inr ⟨rfl, rfl⟩ | (apply Or.inr; simp only [go_sem])) ?_; (repeat (first | simp (maxSteps := 2000000) (disch := omega) only [go_sem, Nat.reduceEqDiff, Nat.reduceAdd, Nat.reduceMul, Nat.reduceSub, Int.reduceToNat, Int.reduceAdd, Int.reduceSub, Int.reduceMul, Int.reduceNeg] | refine vIf_t ?_ | refine vIf_f ?_)))
  by_cases g1 : okC c = true ∧ ds.all wtB = true
  rotate_left
  · have e : loC c x ds = 1 := by rw [loC, if_neg (fun h => g1 ⟨h.2, h.1⟩)]
    have key : (vaC c x == 1) = true ∨ ((vaC c x == 1) = false ∧ (rcW ds 0 == 1) = true) := by
      by_cases h : okC c = true
      · have h' : ds.all wtB = false := by
          cases hh : ds.all wtB with
          | false => rfl
          | true => exact absurd ⟨h, hh⟩ g1
        right
        exact ⟨by simp [hv1, h], by simp [hr1, h']⟩
      · left
        simp [hv1, h]
    rcases key with k1 | ⟨k1, k2⟩
    · (try (repeat (first | simp (maxSteps := 2000000) (disch := omega) only [go_sem, Nat.reduceEqDiff, Nat.reduceAdd, Nat.reduceMul, Nat.reduceSub, Int.reduceToNat, Int.reduceAdd, Int.reduceSub, Int.reduceMul, Int.reduceNeg, k1] | refine vIf_t ?_ | refine vIf_f ?_)))
      (refine retK_of ?_; (repeat (first | simp (maxSteps := 2000000) (disch := omega) only [go_sem, Nat.reduceEqDiff, Nat.reduceAdd, Nat.reduceMul, Nat.reduceSub, Int.reduceToNat, Int.reduceAdd, Int.reduceSub, Int.reduceMul, Int.reduceNeg] | refine vIf_t ?_ | refine vIf_f ?_)))
      rw [e]
      simp [err 1 e (by omega)]
    · (try (repeat (first | simp (maxSteps := 2000000) (disch := omega) only [go_sem, Nat.reduceEqDiff, Nat.reduceAdd, Nat.reduceMul, Nat.reduceSub, Int.reduceToNat, Int.reduceAdd, Int.reduceSub, Int.reduceMul, Int.reduceNeg, k1, k2] | refine vIf_t ?_ | refine vIf_f ?_)))
      (refine retK_of ?_; (repeat (first | simp (maxSteps := 2000000) (disch := omega) only [go_sem, Nat.reduceEqDiff, Nat.reduceAdd, Nat.reduceMul, Nat.reduceSub, Int.reduceToNat, Int.reduceAdd, Int.reduceSub, Int.reduceMul, Int.reduceNeg] | refine vIf_t ?_ | refine vIf_f ?_)))
      rw [e]
      simp [err 1 e (by omega)]
  obtain ⟨hok, h1⟩ := g1
  have n1 : (vaC c x == 1) = false := by simp [hv1, hok]
  have n2 : (rcW ds 0 == 1) = false := by simp [hr1, h1]
  have f := okC_f hok
  have hvn := f.vn
  have h12 := f.n12
  have h2n := f.n2
  have htop := f.vb (c.lv.length - 1) (by omega)
  have va : vaC c x = if inC c x then 0 else 2 := by rw [vaC, if_pos hok]
  have ra : rcW ds 0 = if ds.length ≤ 100 then 0 else 2 := by rw [rcW, if_pos h1]; simp
  by_cases g2 : ds.length ≤ 100 ∧ inC c x
  rotate_left
  · have e : loC c x ds = 2 := by rw [loC, if_pos ⟨h1, hok⟩, if_neg g2]
    have key : (vaC c x != 0) = true ∨ ((vaC c x != 0) = false ∧ (rcW ds 0 != 0) = true) := by
      by_cases h : inC c x
      · right
        rw [if_pos h] at va
        rw [if_neg (fun h' => g2 ⟨h', h⟩)] at ra
        exact ⟨by simp [va], by simp [ra]⟩
      · left
        rw [if_neg h] at va
        simp [va]
    rcases key with k1 | ⟨k1, k2⟩
    · (try (repeat (first | simp (maxSteps := 2000000) (disch := omega) only [go_sem, Nat.reduceEqDiff, Nat.reduceAdd, Nat.reduceMul, Nat.reduceSub, Int.reduceToNat, Int.reduceAdd, Int.reduceSub, Int.reduceMul, Int.reduceNeg, n1, n2, k1] | refine vIf_t ?_ | refine vIf_f ?_)))
      (refine retK_of ?_; (repeat (first | simp (maxSteps := 2000000) (disch := omega) only [go_sem, Nat.reduceEqDiff, Nat.reduceAdd, Nat.reduceMul, Nat.reduceSub, Int.reduceToNat, Int.reduceAdd, Int.reduceSub, Int.reduceMul, Int.reduceNeg] | refine vIf_t ?_ | refine vIf_f ?_)))
      rw [e]
      simp [err 2 e (by omega)]
    · (try (repeat (first | simp (maxSteps := 2000000) (disch := omega) only [go_sem, Nat.reduceEqDiff, Nat.reduceAdd, Nat.reduceMul, Nat.reduceSub, Int.reduceToNat, Int.reduceAdd, Int.reduceSub, Int.reduceMul, Int.reduceNeg, n1, n2, k1, k2] | refine vIf_t ?_ | refine vIf_f ?_)))
      (refine retK_of ?_; (repeat (first | simp (maxSteps := 2000000) (disch := omega) only [go_sem, Nat.reduceEqDiff, Nat.reduceAdd, Nat.reduceMul, Nat.reduceSub, Int.reduceToNat, Int.reduceAdd, Int.reduceSub, Int.reduceMul, Int.reduceNeg] | refine vIf_t ?_ | refine vIf_f ?_)))
      rw [e]
      simp [err 2 e (by omega)]
  obtain ⟨h2, h3⟩ := g2
  rw [if_pos h3] at va
  rw [if_pos h2] at ra
  have m1 : (vaC c x != 0) = false := by simp [va]
  have m2 : (rcW ds 0 != 0) = false := by simp [ra]
  have hvo := l05Volume_ok c x f h3
  have hvb := vlm_bd f x h3
  have ek : ((c.vl.length : Int) - 1).toNat = c.vl.length - 1 := by omega
  have et : gi c.vl (c.vl.length - 1) = gi c.vl (c.lv.length - 1) := by rw [hvn]
  unfold Cv.cells at hvo
  (repeat (first | simp (maxSteps := 2000000) (disch := omega) only [go_sem, Nat.reduceEqDiff, Nat.reduceAdd, Nat.reduceMul, Nat.reduceSub, Int.reduceToNat, Int.reduceAdd, Int.reduceSub, Int.reduceMul, Int.reduceNeg, n1, n2] | refine vIf_t ?_ | refine vIf_f ?_))
  (try (repeat (first | simp (maxSteps := 2000000) (disch := omega) only [go_sem, Nat.reduceEqDiff, Nat.reduceAdd, Nat.reduceMul, Nat.reduceSub, Int.reduceToNat, Int.reduceAdd, Int.reduceSub, Int.reduceMul, Int.reduceNeg, m1, m2] | refine vIf_t ?_ | refine vIf_f ?_)))
  (refine vCallX_of ?_; (repeat (first | simp (maxSteps := 2000000) (disch := omega) only [go_sem, Nat.reduceEqDiff, Nat.reduceAdd, Nat.reduceMul, Nat.reduceSub, Int.reduceToNat, Int.reduceAdd, Int.reduceSub, Int.reduceMul, Int.reduceNeg] | refine vIf_t ?_ | refine vIf_f ?_)); refine vCall_eq (hvo) (by simp (disch := omega) only [go_sem, Nat.reduceAdd]) rfl (by first | exact Or.inl rfl | exact Or.inr ⟨rfl, rfl⟩ | (apply Or.inr; simp only [go_sem])) ?_; (repeat (first | simp (maxSteps := 2000000) (disch := omega) only [go_sem, Nat.reduceEqDiff, Nat.reduceAdd, Nat.reduceMul, Nat.reduceSub, Int.reduceToNat, Int.reduceAdd, Int.reduceSub, Int.reduceMul, Int.reduceNeg] | refine vIf_t ?_ | refine vIf_f ?_)))
  refine vcLoop_invF (fun k : Nat => k ≤ ds.length ∧ ∀ j, j < k → lvQ c (vlm c x) ds j = false) (fun k => ⟨62, 0, [(12, I k), (3, .ptr 0 0), (11, .ref 1 0 k), (2, .sl ds.length (cWt ds)), (10, I (vsK (vlm c x) ds k))], [some ⟨2, [.sl c.lv.length (ints c.lv), .sl c.vl.length (ints c.vl)]⟩, oI (lvL c (vlm c x) ds k)]⟩) (fun k => ds.length - k) 0 ⟨by omega, fun j hj => by omega⟩ (by simp only [lvL_zero, vsK]; (first | (refine leF_s ?_; ((repeat (first | simp (maxSteps := 2000000) (disch := omega) only [go_sem, Nat.reduceEqDiff, Nat.reduceAdd, Nat.reduceMul, Nat.reduceSub, Int.reduceToNat, Int.reduceAdd, Int.reduceSub, Int.reduceMul, Int.reduceNeg] | refine vIf_t ?_ | refine vIf_f ?_)); all_goals (try simp); all_goals (try omega)); done) | (refine leF_p ?_; ((repeat (first | simp (maxSteps := 2000000) (disch := omega) only [go_sem, Nat.reduceEqDiff, Nat.reduceAdd, Nat.reduceMul, Nat.reduceSub, Int.reduceToNat, Int.reduceAdd, Int.reduceSub, Int.reduceMul, Int.reduceNeg] | refine vIf_t ?_ | refine vIf_f ?_)); all_goals (try simp); all_goals (try omega)); done))) ?_
  intro k ⟨hk, hn⟩
  have hlen := lvL_len c (vlm c x) ds k
  (repeat (first | simp (maxSteps := 2000000) (disch := omega) only [go_sem, Nat.reduceEqDiff, Nat.reduceAdd, Nat.reduceMul, Nat.reduceSub, Int.reduceToNat, Int.reduceAdd, Int.reduceSub, Int.reduceMul, Int.reduceNeg] | refine vIf_t ?_ | refine vIf_f ?_))
  refine vIf_dec (fun h5 => ?_) (fun h5 => ?_)
  · have hf := wt_all h1 k (by omega)
    have hcn := l13Net_ok ds k (by omega) hf
    have hb := vsK_bd (s := vlm c x) h1 k hk
    have hw := wtN_bd hf
    have es : vsK (vlm c x) ds k + wtN (gWt ds k) = vsK (vlm c x) ds (k + 1) := rfl
    (repeat (first | simp (maxSteps := 2000000) (disch := omega) only [go_sem, Nat.reduceEqDiff, Nat.reduceAdd, Nat.reduceMul, Nat.reduceSub, Int.reduceToNat, Int.reduceAdd, Int.reduceSub, Int.reduceMul, Int.reduceNeg] | refine vIf_t ?_ | refine vIf_f ?_))
    (refine vCallX_of ?_; (repeat (first | simp (maxSteps := 2000000) (disch := omega) only [go_sem, Nat.reduceEqDiff, Nat.reduceAdd, Nat.reduceMul, Nat.reduceSub, Int.reduceToNat, Int.reduceAdd, Int.reduceSub, Int.reduceMul, Int.reduceNeg] | refine vIf_t ?_ | refine vIf_f ?_)); refine vCall_eq (hcn) (by simp (disch := omega) only [go_sem, Nat.reduceAdd]) rfl (by first | exact Or.inl rfl | exact Or.inr ⟨rfl, rfl⟩ | (apply Or.inr; simp only [go_sem])) ?_; (repeat (first | simp (maxSteps := 2000000) (disch := omega) only [go_sem, Nat.reduceEqDiff, Nat.reduceAdd, Nat.reduceMul, Nat.reduceSub, Int.reduceToNat, Int.reduceAdd, Int.reduceSub, Int.reduceMul, Int.reduceNeg] | refine vIf_t ?_ | refine vIf_f ?_)))
    (try (repeat (first | simp (maxSteps := 2000000) (disch := omega) only [go_sem, Nat.reduceEqDiff, Nat.reduceAdd, Nat.reduceMul, Nat.reduceSub, Int.reduceToNat, Int.reduceAdd, Int.reduceSub, Int.reduceMul, Int.reduceNeg, es] | refine vIf_t ?_ | refine vIf_f ?_)))
    refine vIf_dec (fun h6 => ?_) (fun h6 => ?_)
    · have e := loC_some h1 hok (by omega) h3 (show k < ds.length by omega) (decide_eq_true (.inl h6)) hn
      rw [if_pos h6] at e
      (repeat (first | simp (maxSteps := 2000000) (disch := omega) only [go_sem, Nat.reduceEqDiff, Nat.reduceAdd, Nat.reduceMul, Nat.reduceSub, Int.reduceToNat, Int.reduceAdd, Int.reduceSub, Int.reduceMul, Int.reduceNeg] | refine vIf_t ?_ | refine vIf_f ?_))
      (refine retK_of ?_; (repeat (first | simp (maxSteps := 2000000) (disch := omega) only [go_sem, Nat.reduceEqDiff, Nat.reduceAdd, Nat.reduceMul, Nat.reduceSub, Int.reduceToNat, Int.reduceAdd, Int.reduceSub, Int.reduceMul, Int.reduceNeg] | refine vIf_t ?_ | refine vIf_f ?_)))
      rw [e]
      simp [err 6 e (by omega)]
    · (repeat (first | simp (maxSteps := 2000000) (disch := omega) only [go_sem, Nat.reduceEqDiff, Nat.reduceAdd, Nat.reduceMul, Nat.reduceSub, Int.reduceToNat, Int.reduceAdd, Int.reduceSub, Int.reduceMul, Int.reduceNeg, ek] | refine vIf_t ?_ | refine vIf_f ?_))
      (try (repeat (first | simp (maxSteps := 2000000) (disch := omega) only [go_sem, Nat.reduceEqDiff, Nat.reduceAdd, Nat.reduceMul, Nat.reduceSub, Int.reduceToNat, Int.reduceAdd, Int.reduceSub, Int.reduceMul, Int.reduceNeg, et] | refine vIf_t ?_ | refine vIf_f ?_)))
      refine vIf_dec (fun h7 => ?_) (fun h7 => ?_)
      · have e := loC_some h1 hok (by omega) h3 (show k < ds.length by omega) (decide_eq_true (.inr h7)) hn
        rw [if_neg h6] at e
        (repeat (first | simp (maxSteps := 2000000) (disch := omega) only [go_sem, Nat.reduceEqDiff, Nat.reduceAdd, Nat.reduceMul, Nat.reduceSub, Int.reduceToNat, Int.reduceAdd, Int.reduceSub, Int.reduceMul, Int.reduceNeg] | refine vIf_t ?_ | refine vIf_f ?_))
        (refine retK_of ?_; (repeat (first | simp (maxSteps := 2000000) (disch := omega) only [go_sem, Nat.reduceEqDiff, Nat.reduceAdd, Nat.reduceMul, Nat.reduceSub, Int.reduceToNat, Int.reduceAdd, Int.reduceSub, Int.reduceMul, Int.reduceNeg] | refine vIf_t ?_ | refine vIf_f ?_)))
        rw [e]
        simp [err 10 e (by omega)]
      · have hlx := levxS_ok c (vsK (vlm c x) ds (k + 1)) f (by omega)
        unfold Cv.cells at hlx
        (repeat (first | simp (maxSteps := 2000000) (disch := omega) only [go_sem, Nat.reduceEqDiff, Nat.reduceAdd, Nat.reduceMul, Nat.reduceSub, Int.reduceToNat, Int.reduceAdd, Int.reduceSub, Int.reduceMul, Int.reduceNeg] | refine vIf_t ?_ | refine vIf_f ?_))
        (refine vCallX_of ?_; (repeat (first | simp (maxSteps := 2000000) (disch := omega) only [go_sem, Nat.reduceEqDiff, Nat.reduceAdd, Nat.reduceMul, Nat.reduceSub, Int.reduceToNat, Int.reduceAdd, Int.reduceSub, Int.reduceMul, Int.reduceNeg] | refine vIf_t ?_ | refine vIf_f ?_)); refine vCall_eq (hlx) (by simp (disch := omega) only [go_sem, Nat.reduceAdd]) rfl (by first | exact Or.inl rfl | exact Or.inr ⟨rfl, rfl⟩ | (apply Or.inr; simp only [go_sem])) ?_; (repeat (first | simp (maxSteps := 2000000) (disch := omega) only [go_sem, Nat.reduceEqDiff, Nat.reduceAdd, Nat.reduceMul, Nat.reduceSub, Int.reduceToNat, Int.reduceAdd, Int.reduceSub, Int.reduceMul, Int.reduceNeg] | refine vIf_t ?_ | refine vIf_f ?_)))
        refine againF (k + 1) ⟨by omega, fun j hj => ?_⟩ (by omega) ?_
        · by_cases e : j = k
          · subst e; exact decide_eq_false (by omega)
          · exact hn j (by omega)
        · simp only [lvL_succ]
          (first | (refine leF_s ?_; ((repeat (first | simp (maxSteps := 2000000) (disch := omega) only [go_sem, Nat.reduceEqDiff, Nat.reduceAdd, Nat.reduceMul, Nat.reduceSub, Int.reduceToNat, Int.reduceAdd, Int.reduceSub, Int.reduceMul, Int.reduceNeg] | refine vIf_t ?_ | refine vIf_f ?_)); all_goals (try simp); all_goals (try omega)); done) | (refine leF_p ?_; ((repeat (first | simp (maxSteps := 2000000) (disch := omega) only [go_sem, Nat.reduceEqDiff, Nat.reduceAdd, Nat.reduceMul, Nat.reduceSub, Int.reduceToNat, Int.reduceAdd, Int.reduceSub, Int.reduceMul, Int.reduceNeg] | refine vIf_t ?_ | refine vIf_f ?_)); all_goals (try simp); all_goals (try omega)); done))
  · have e := loC_none h1 hok (by omega) h3 (fun j hj => hn j (by omega))
    (repeat (first | simp (maxSteps := 2000000) (disch := omega) only [go_sem, Nat.reduceEqDiff, Nat.reduceAdd, Nat.reduceMul, Nat.reduceSub, Int.reduceToNat, Int.reduceAdd, Int.reduceSub, Int.reduceMul, Int.reduceNeg] | refine vIf_t ?_ | refine vIf_f ?_))
    refine retK_frz (.step 1 ⟨1, ints (lvL c (vlm c x) ds k)⟩ rfl (by (repeat (first | simp (maxSteps := 2000000) (disch := omega) only [go_sem, Nat.reduceEqDiff, Nat.reduceAdd, Nat.reduceMul, Nat.reduceSub, Int.reduceToNat, Int.reduceAdd, Int.reduceSub, Int.reduceMul, Int.reduceNeg] | refine vIf_t ?_ | refine vIf_f ?_))) (.refl _)) ?_
    (repeat (first | simp (maxSteps := 2000000) (disch := omega) only [go_sem, Nat.reduceEqDiff, Nat.reduceAdd, Nat.reduceMul, Nat.reduceSub, Int.reduceToNat, Int.reduceAdd, Int.reduceSub, Int.reduceMul, Int.reduceNeg] | refine vIf_t ?_ | refine vIf_f ?_))
    rw [loL, if_pos e, e, show k = ds.length by omega]
    simp [iS, lvL_len]
end Go.Proofs.Ythffpidjpgogdaa

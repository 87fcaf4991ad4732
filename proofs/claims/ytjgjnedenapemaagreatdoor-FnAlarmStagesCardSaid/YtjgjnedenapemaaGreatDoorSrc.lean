/- the source of choices: next, pick, one -/
import Derived.Test.YtjgjnedenapemaaGreatDoorAgT
import Derived.Test.YtjgjnedenapemaaGreatDoorAgZ
set_option linter.unusedVariables false
set_option linter.unusedSimpArgs false
namespace Go.Proofs.YtjgjnedenapemaaGreatDoor
open Go.AG

/-- where a source stands -/
structure Sr where
  pos : Nat
  seed : Int
/-- a source, as an object -/
def srO (code : List Int) (σ : Sr) : Option Ob := some ⟨3, [.sl code.length (bts code), .sc (.int .i64 σ.pos), .sc (.int .u64 σ.seed)]⟩
def nxB (code : List Int) (σ : Sr) : Int := if σ.pos < code.length then gi code σ.pos else 0
def nxS (code : List Int) (σ : Sr) : Sr := ⟨σ.pos + 1, IntKind.wrap .u64 (IntKind.wrap .u64 (IntKind.wrap .u64 (σ.seed * 6364136223846793005) + nxB code σ) + 1442695040888963407)⟩
def nx (code : List Int) (σ : Sr) : Int := if σ.pos + 1 ≤ code.length then nxB code σ else Go.bits .and .u64 ((nxS code σ).seed.fdiv 1099511627776) 255
theorem nxB_bd {code : List Int} (hb : bOk code) (σ : Sr) : 0 ≤ nxB code σ ∧ nxB code σ ≤ 255 := by
  unfold nxB; split
  · rename_i h; exact hb _ h
  · omega
theorem nx_bd {code : List Int} (hb : bOk code) (σ : Sr) : 0 ≤ nx code σ ∧ nx code σ ≤ 255 := by
  unfold nx; split
  · exact nxB_bd hb σ
  · exact bits_and_255 _
theorem nxS_pos (code : List Int) (σ : Sr) : (nxS code σ).pos = σ.pos + 1 := rfl

set_option maxHeartbeats 1000000 in
theorem next_ok' (code : List Int) (σ : Sr) (hb : bOk code) (hl : code.length ≤ 10000000) (hp : σ.pos ≤ 1000000000000) : ACalls Tryz.prog 93 [.ptr 0 0] [srO code σ] (fun r o => r = I (nx code σ) ∧ o = [srO code (nxS code σ)]) := by
  refine ACalls.of_vc Tryz.func93 rfl (by decide) 62 rfl [.tmp 2] rfl (by simp) ?_
  unfold srO
  have hbb := nxB_bd hb σ
  (repeat (first | simp (maxSteps := 2000000) (disch := omega) only [go_sem, ↓reduceIte] | with_reducible refine vIf_t ?_ | with_reducible refine vIf_f ?_))
  (refine vDraw_of mixed (by kernel_rfl) ?_; (repeat (first | simp (maxSteps := 2000000) (disch := omega) only [go_sem, ↓reduceIte] | with_reducible refine vIf_t ?_ | with_reducible refine vIf_f ?_)))
  refine vIf_join1 ⟨62, 1, [(3, I (nxB code σ)), (0, .ptr 0 0)], [srO code σ]⟩ (fun h => ?_) (fun h => ?_) ?_
  · have h := of_decide_eq_true h
    have e : nxB code σ = gi code σ.pos := by unfold nxB; rw [if_pos (by omega)]
    have hx := hb σ.pos (by omega)
    (repeat (first | simp (maxSteps := 2000000) (disch := omega) only [go_sem, ↓reduceIte] | with_reducible refine vIf_t ?_ | with_reducible refine vIf_f ?_))
    (refine vDraw_of mixed (by kernel_rfl) ?_; (repeat (first | simp (maxSteps := 2000000) (disch := omega) only [go_sem, ↓reduceIte] | with_reducible refine vIf_t ?_ | with_reducible refine vIf_f ?_)))
    refine jn_same () trivial ?_
    unfold srO
    (repeat (first | simp (maxSteps := 2000000) (disch := omega) only [go_sem, ↓reduceIte, e] | with_reducible refine vIf_t ?_ | with_reducible refine vIf_f ?_))
  · have h := of_decide_eq_false h
    have e : nxB code σ = 0 := by unfold nxB; rw [if_neg (by omega)]
    (repeat (first | simp (maxSteps := 2000000) (disch := omega) only [go_sem, ↓reduceIte] | with_reducible refine vIf_t ?_ | with_reducible refine vIf_f ?_))
    refine jn_same () trivial ?_
    unfold srO
    (repeat (first | simp (maxSteps := 2000000) (disch := omega) only [go_sem, ↓reduceIte, e] | with_reducible refine vIf_t ?_ | with_reducible refine vIf_f ?_))
  · unfold srO
    (repeat (first | simp (maxSteps := 2000000) (disch := omega) only [go_sem, ↓reduceIte] | with_reducible refine vIf_t ?_ | with_reducible refine vIf_f ?_))
    (refine vDraw_of mixed (by kernel_rfl) ?_; (repeat (first | simp (maxSteps := 2000000) (disch := omega) only [go_sem, ↓reduceIte] | with_reducible refine vIf_t ?_ | with_reducible refine vIf_f ?_)))
    refine vIf_dec (fun h => ?_) (fun h => ?_)
    · have e : nx code σ = nxB code σ := by unfold nx; rw [if_pos (by omega)]
      (repeat (first | simp (maxSteps := 2000000) (disch := omega) only [go_sem, ↓reduceIte] | with_reducible refine vIf_t ?_ | with_reducible refine vIf_f ?_))
      (refine retK_of ?_; (repeat (first | simp (maxSteps := 2000000) (disch := omega) only [go_sem, ↓reduceIte] | with_reducible refine vIf_t ?_ | with_reducible refine vIf_f ?_)))
      simp [e, nxS]
    · have e : nx code σ = Go.bits .and .u64 ((nxS code σ).seed.fdiv 1099511627776) 255 := by unfold nx; rw [if_neg (by omega)]
      (repeat (first | simp (maxSteps := 2000000) (disch := omega) only [go_sem, ↓reduceIte] | with_reducible refine vIf_t ?_ | with_reducible refine vIf_f ?_))
      (refine retK_of ?_; (repeat (first | simp (maxSteps := 2000000) (disch := omega) only [go_sem, ↓reduceIte] | with_reducible refine vIf_t ?_ | with_reducible refine vIf_f ?_)))
      simp [e, nxS]
/-- a choice below n -/
def pkV (code : List Int) (n : Int) (σ : Sr) : Int := if n ≤ 1 then 0 else if 200 < n then (nx code σ * 256 + nx code (nxS code σ)).tmod n else (nx code σ).tmod n
def pkS (code : List Int) (n : Int) (σ : Sr) : Sr := if n ≤ 1 then σ else if 200 < n then nxS code (nxS code σ) else nxS code σ
theorem pkS_pos (code : List Int) (n : Int) (σ : Sr) : (pkS code n σ).pos ≤ σ.pos + 2 := by
  unfold pkS; split
  · omega
  · split <;> simp [nxS]
theorem pkV_bd {code : List Int} (hb : bOk code) (n : Int) (σ : Sr) : 0 ≤ pkV code n σ ∧ (pkV code n σ < n ∨ pkV code n σ = 0) := by
  have h1 := nx_bd hb σ
  have h2 := nx_bd hb (nxS code σ)
  unfold pkV; split
  · omega
  · split
    · rw [Int.tmod_eq_emod_of_nonneg (by omega)]
      have := Int.emod_nonneg (nx code σ * 256 + nx code (nxS code σ)) (b := n) (by omega)
      have := Int.emod_lt_of_pos (nx code σ * 256 + nx code (nxS code σ)) (b := n) (by omega)
      omega
    · rw [Int.tmod_eq_emod_of_nonneg (by omega)]
      have := Int.emod_nonneg (nx code σ) (b := n) (by omega)
      have := Int.emod_lt_of_pos (nx code σ) (b := n) (by omega)
      omega
theorem pick_ok (code : List Int) (n : Int) (σ : Sr) (hb : bOk code) (hl : code.length ≤ 10000000) (hp : σ.pos ≤ 100000000000) : ACalls Tryz.prog 46 [.ptr 0 0, I n] [srO code σ] (fun r o => r = I (pkV code n σ) ∧ o = [srO code (pkS code n σ)]) := by
  refine ACalls.of_vc Tryz.func46 rfl (by decide) 20 rfl [.tmp 4] rfl (by simp) ?_
  have h1 := nx_bd hb σ
  have h2 := nx_bd hb (nxS code σ)
  have hp2 : (nxS code σ).pos = σ.pos + 1 := rfl
  unfold srO
  (repeat (first | simp (maxSteps := 2000000) (disch := omega) only [go_sem, ↓reduceIte] | with_reducible refine vIf_t ?_ | with_reducible refine vIf_f ?_))
  refine vIf_dec (fun h => ?_) (fun h => ?_)
  · (repeat (first | simp (maxSteps := 2000000) (disch := omega) only [go_sem, ↓reduceIte] | with_reducible refine vIf_t ?_ | with_reducible refine vIf_f ?_))
    (refine retK_of ?_; (repeat (first | simp (maxSteps := 2000000) (disch := omega) only [go_sem, ↓reduceIte] | with_reducible refine vIf_t ?_ | with_reducible refine vIf_f ?_)))
    simp [pkV, pkS, h]
  · (repeat (first | simp (maxSteps := 2000000) (disch := omega) only [go_sem, ↓reduceIte] | with_reducible refine vIf_t ?_ | with_reducible refine vIf_f ?_))
    have hc1 := next_ok' code σ hb hl (by omega)
    have hc2 := next_ok' code (nxS code σ) hb hl (by omega)
    unfold srO at hc1 hc2
    (refine vCallX_io [0] ?_; (repeat (first | simp (maxSteps := 2000000) (disch := omega) only [go_sem, ↓reduceIte] | with_reducible refine vIf_t ?_ | with_reducible refine vIf_f ?_)); refine vCallIO_eq (hc1) (by simp (disch := omega) only [go_sem]) (by simp (disch := omega) only [go_sem]) (by first | rfl | (simp (disch := omega) only [go_sem])) (by first | rfl | (simp (disch := omega) only [go_sem])) (by first | rfl | (simp (disch := omega) only [go_sem])) (by first | (simp (disch := omega) only [go_sem]) | skip) ?_; (repeat (first | simp (maxSteps := 2000000) (disch := omega) only [go_sem, ↓reduceIte] | with_reducible refine vIf_t ?_ | with_reducible refine vIf_f ?_)))
    refine vIf_dec (fun h3 => ?_) (fun h3 => ?_)
    · (repeat (first | simp (maxSteps := 2000000) (disch := omega) only [go_sem, ↓reduceIte] | with_reducible refine vIf_t ?_ | with_reducible refine vIf_f ?_))
      (refine vCallX_io [0] ?_; (repeat (first | simp (maxSteps := 2000000) (disch := omega) only [go_sem, ↓reduceIte] | with_reducible refine vIf_t ?_ | with_reducible refine vIf_f ?_)); refine vCallIO_eq (hc2) (by simp (disch := omega) only [go_sem]) (by simp (disch := omega) only [go_sem]) (by first | rfl | (simp (disch := omega) only [go_sem])) (by first | rfl | (simp (disch := omega) only [go_sem])) (by first | rfl | (simp (disch := omega) only [go_sem])) (by first | (simp (disch := omega) only [go_sem]) | skip) ?_; (repeat (first | simp (maxSteps := 2000000) (disch := omega) only [go_sem, ↓reduceIte] | with_reducible refine vIf_t ?_ | with_reducible refine vIf_f ?_)))
      (refine retK_of ?_; (repeat (first | simp (maxSteps := 2000000) (disch := omega) only [go_sem, ↓reduceIte] | with_reducible refine vIf_t ?_ | with_reducible refine vIf_f ?_)))
      simp [pkV, pkS, h, h3]
    · (repeat (first | simp (maxSteps := 2000000) (disch := omega) only [go_sem, ↓reduceIte] | with_reducible refine vIf_t ?_ | with_reducible refine vIf_f ?_))
      (refine retK_of ?_; (repeat (first | simp (maxSteps := 2000000) (disch := omega) only [go_sem, ↓reduceIte] | with_reducible refine vIf_t ?_ | with_reducible refine vIf_f ?_)))
      simp [pkV, pkS, h, h3]
theorem one_ok (code : List Int) (n : Int) (σ : Sr) (hb : bOk code) (hl : code.length ≤ 10000000) (hp : σ.pos ≤ 100000000000) : ACalls Tryz.prog 76 [.ptr 0 0, I n] [srO code σ] (fun r o => r = B (pkV code n σ == 0) ∧ o = [srO code (pkS code n σ)]) := by
  refine ACalls.of_vc Tryz.func76 rfl (by decide) 9 rfl [.tmp 4] rfl (by simp) ?_
  have hc := pick_ok code n σ hb hl hp
  unfold srO at hc ⊢
  (repeat (first | simp (maxSteps := 2000000) (disch := omega) only [go_sem, ↓reduceIte] | with_reducible refine vIf_t ?_ | with_reducible refine vIf_f ?_))
  (refine vCallX_io [0] ?_; (repeat (first | simp (maxSteps := 2000000) (disch := omega) only [go_sem, ↓reduceIte] | with_reducible refine vIf_t ?_ | with_reducible refine vIf_f ?_)); refine vCallIO_eq (hc) (by simp (disch := omega) only [go_sem]) (by simp (disch := omega) only [go_sem]) (by first | rfl | (simp (disch := omega) only [go_sem])) (by first | rfl | (simp (disch := omega) only [go_sem])) (by first | rfl | (simp (disch := omega) only [go_sem])) (by first | (simp (disch := omega) only [go_sem]) | skip) ?_; (repeat (first | simp (maxSteps := 2000000) (disch := omega) only [go_sem, ↓reduceIte] | with_reducible refine vIf_t ?_ | with_reducible refine vIf_f ?_)))
  (refine retK_of ?_; (repeat (first | simp (maxSteps := 2000000) (disch := omega) only [go_sem, ↓reduceIte] | with_reducible refine vIf_t ?_ | with_reducible refine vIf_f ?_)))
theorem from_ok (code : List Int) (hl : code.length ≤ 10000000) : ACalls Tryz.prog 45 [bS code] [] (fun r o => r = .ptr 0 0 ∧ o = [srO code ⟨0, 0⟩]) := by
  refine ACalls.of_vc Tryz.func45 rfl (by decide) 6 rfl [.tmp 2] rfl (by simp) ?_
  unfold srO bS
  (repeat (first | simp (maxSteps := 2000000) (disch := omega) only [go_sem, ↓reduceIte] | with_reducible refine vIf_t ?_ | with_reducible refine vIf_f ?_))
  (refine retK_of ?_; (repeat (first | simp (maxSteps := 2000000) (disch := omega) only [go_sem, ↓reduceIte] | with_reducible refine vIf_t ?_ | with_reducible refine vIf_f ?_)))
end Go.Proofs.YtjgjnedenapemaaGreatDoor

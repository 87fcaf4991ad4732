/-
  The law FnExactLevelReached: it returns true for every input, and each argument reads afterwards as before. No condition. The frame is as the proof-skeleton writes it, read by my readers; the walk is the contract levelLaw_ok.
-/
import Derived.Test.YtkgfpephkinocaaRows
import Derived.WalkKit
import Derived.ProofKit
import Derived.OpenShut
import Derived.ShutString
import Derived.ChangeOld
import Derived.Below
import Derived.Test.YtkgfpephkinocaaLevel
import Derived.Test.YtkgfpephkinocaaReadL
namespace Go.Proofs.Ytkgfpephkinocaa.fnExactLevelReached
open Go.ChangeShapes Go.WideShapes Go.ChangeAt Go.RowKit
open Go
set_option linter.unusedVariables false

theorem own : ownKnob Try.prog.godebug = none := by kernel_rfl
theorem laidOut : laidOutB Try.prog = true := by kernel_rfl

set_option maxRecDepth 100000 in
theorem lifted (os : Os) (started : os.Started) (H : Type) (enc : TypeId × Value → H) :
    ReturnsInHanded {} Try.checked os 5 .any (Rows.fnExactLevelReachedSpec.pre6 enc Try.prog Try.f5 Rows.fnExactLevelReachedRow.domain false) (Rows.fnExactLevelReachedSpec.post enc Try.prog Try.f5 false true false false) := by
  refine returnsInHanded_of_change (C := Try.checked) own started (by kernel_rfl) Try.func5
    (ChangeSpec.witness6 (enc := enc) (C := Try.checked) false ⟨#[], #[.agg #[.int .i64 0, .int .i64 0, .slice none 0 0], .int .i64 0, .int .i64 0], []⟩ 8 (by kernel_rfl) (by kernel_rfl) (by kernel_rfl) (by kernel_rfl)) ?_
  intro W base args ds gs before hval0 hW hcnd _
  have hval : ∀ (j : Nat) t v, Try.f5.params[j]? = some t → args[j]? = some v → Value.okWide Try.prog W .any base t v := hval0
  have hW' := hW
  obtain ⟨p, q, hA0, hV, rfl, hfz, hnd⟩ := hW
  have hA : DataW.TrodAll enc Try.prog W 0 (fun _ => true) true Try.f5.params.toList args.toList ds p := hA0
  rw [Try.params5] at hA hval
  obtain ⟨v0, vs0, d0, ds0, p0, q0, hargs, rfl, rfl, h0, r0⟩ := trodAll_cons hA
  obtain ⟨v1, vs1, d1, ds1, p1, q1, rfl, rfl, rfl, h1, r1⟩ := trodAll_cons r0
  obtain ⟨v2, vs2, d2, ds2, p2, q2, rfl, rfl, rfl, h2, r2⟩ := trodAll_cons r1
  obtain ⟨rfl, rfl, rfl⟩ := trodAll_nil r2
  obtain rfl : args = #[v0, v1, v2] := by cases args; simp_all
  obtain ⟨rfl, rfl⟩ := trodVars_none hV
  have lt0 : ∀ x ∈ p0, x.block < W.heap.size := by obtain ⟨m, hm⟩ := h0; exact DataW.trod_lt m _ _ _ hm
  obtain ⟨x0, f0, g0⟩ := read_land H enc W v0 d0 p0 (hval 0 58 v0 rfl rfl) h0
  have lt1 : ∀ x ∈ p1, x.block < W.heap.size := by obtain ⟨m, hm⟩ := h1; exact DataW.trod_lt m _ _ _ hm
  obtain ⟨x1, f1, g1⟩ := read_int H enc W v1 d1 p1 (hval 1 2 v1 rfl rfl) h1
  have lt2 : ∀ x ∈ p2, x.block < W.heap.size := by obtain ⟨m, hm⟩ := h2; exact DataW.trod_lt m _ _ _ hm
  obtain ⟨x2, f2, g2⟩ := read_int H enc W v2 d2 p2 (hval 2 2 v2 rfl rfl) h2
  clear hA0 hval0
  refine (AG.walk_of (vs := [v0, v1, v2]) (levelLaw_ok x0 x1 x2 f0) ⟨g0, g1, g2, trivial⟩).mono fun e W' ⟨he, bel⟩ => ?_
  subst he
  exact ⟨_, rfl, _, _, _, [], _, [], hW', trodAll_mk1 (shut_bool Try.underlying4 _), (trodAll_cons_mk (Below.trod laidOut (by kernel_rfl) (of_decide_eq_true (by kernel_rfl)) h0 bel lt0) (trodAll_cons_mk (Below.trod laidOut (by kernel_rfl) (of_decide_eq_true (by kernel_rfl)) h1 bel lt1) (trodAll_cons_mk (Below.trod laidOut (by kernel_rfl) (of_decide_eq_true (by kernel_rfl)) h2 bel lt2) trodAll_mk0))), rfl, bel.frame _, fun h => by cases h⟩

theorem jn : Try.pinned.checked.prog.funcNamed Rows.fnExactLevelReachedRow.func = some 5 := by kernel_rfl
theorem jf : joinedFacts Try.pinned.checked.prog 5 Try.f5 Rows.fnExactLevelReachedSpec Rows.fnExactLevelReachedRow = true := by kernel_rfl
theorem ji : Try.f5.isInstance Try.pinned.checked.prog Rows.fnExactLevelReachedRow.origin Rows.fnExactLevelReachedRow.targs := of_decide_eq_true (by kernel_rfl)
theorem jw : Try.f5.isWrapper Try.pinned.checked.prog Rows.fnExactLevelReachedRow.wrapper Rows.fnExactLevelReachedRow.mainSum := by unfold Func.isWrapper; first | (rw [if_pos (by decide +kernel)]; kernel_rfl) | (rw [if_neg (by decide +kernel)]; exact ⟨rfl, rfl⟩)
theorem over : Rows.fnExactLevelReachedRow.holds Try.pinned (OpenSpec.ofChange Rows.fnExactLevelReachedSpec) :=
  OpenClaim.holds_of_wide 5 Try.f5 rfl rfl rfl rfl rfl rfl rfl ⟨rfl, rfl, rfl, rfl, rfl⟩ rfl rfl rfl rfl rfl jn Try.func5 jf ji jw
    (fun os started H enc _ => lifted os started H enc)

theorem proved : Rows.FnExactLevelReachedSaid := over
#print axioms proved
end Go.Proofs.Ytkgfpephkinocaa.fnExactLevelReached

/-
  The law FnDitchFlows: it returns true for every input, and each argument reads afterwards as before. No condition. The frame is as the proof-skeleton writes it, read by my readers; the walk is the contract flowsLaw_ok.
-/
import Derived.Test.YthgjcanhemohfaaRows
import Derived.WalkKit
import Derived.ProofKit
import Derived.OpenShut
import Derived.ShutString
import Derived.ChangeOld
import Derived.Below
import Derived.Test.YthgjcanhemohfaaRead
import Derived.Test.YthgjcanhemohfaaFloLaw
namespace Go.Proofs.Ythgjcanhemohfaa.fnDitchFlows
open Go.ChangeShapes Go.WideShapes Go.ChangeAt Go.RowKit
open Go
set_option linter.unusedVariables false

theorem own : ownKnob Try.prog.godebug = none := by kernel_rfl
theorem laidOut : laidOutB Try.prog = true := by kernel_rfl

set_option maxRecDepth 100000 in
theorem lifted (os : Os) (started : os.Started) (H : Type) (enc : TypeId × Value → H) :
    ReturnsInHanded {} Try.checked os 3 .any (Rows.fnDitchFlowsSpec.pre6 enc Try.prog Try.f3 Rows.fnDitchFlowsRow.domain false) (Rows.fnDitchFlowsSpec.post enc Try.prog Try.f3 false true false false) := by
  refine returnsInHanded_of_change (C := Try.checked) own started (by kernel_rfl) Try.func3
    (ChangeSpec.witness6 (enc := enc) (C := Try.checked) false ⟨#[], #[.slice none 0 0, .slice none 0 0], []⟩ 8 (by kernel_rfl) (by kernel_rfl) (by kernel_rfl) (by kernel_rfl)) ?_
  intro W base args ds gs before hval0 hW hcnd _
  have hval : ∀ (j : Nat) t v, Try.f3.params[j]? = some t → args[j]? = some v → Value.okWide Try.prog W .any base t v := hval0
  have hW' := hW
  obtain ⟨p, q, hA0, hV, rfl, hfz, hnd⟩ := hW
  have hA : DataW.TrodAll enc Try.prog W 0 (fun _ => true) true Try.f3.params.toList args.toList ds p := hA0
  rw [Try.params3] at hA hval
  obtain ⟨v0, vs0, d0, ds0, p0, q0, hargs, rfl, rfl, h0, r0⟩ := trodAll_cons hA
  obtain ⟨v1, vs1, d1, ds1, p1, q1, rfl, rfl, rfl, h1, r1⟩ := trodAll_cons r0
  obtain ⟨rfl, rfl, rfl⟩ := trodAll_nil r1
  obtain rfl : args = #[v0, v1] := by cases args; simp_all
  obtain ⟨rfl, rfl⟩ := trodVars_none hV
  have lt0 : ∀ x ∈ p0, x.block < W.heap.size := by obtain ⟨m, hm⟩ := h0; exact DataW.trod_lt m _ _ _ hm
  obtain ⟨x0, f0, g0⟩ := read_bytes H enc W v0 d0 p0 (hval 0 22 v0 rfl rfl) h0
  have lt1 : ∀ x ∈ p1, x.block < W.heap.size := by obtain ⟨m, hm⟩ := h1; exact DataW.trod_lt m _ _ _ hm
  obtain ⟨x1, f1, g1⟩ := read_bytes H enc W v1 d1 p1 (hval 1 22 v1 rfl rfl) h1
  clear hA0 hval0
  refine (AG.walk_of (by kernel_rfl) (vs := [v0, v1]) (flowsLaw_ok x0 x1 f0.2 f0.1 f1.2 f1.1) ⟨g0, g1, trivial⟩).mono fun e W' ⟨he, bel⟩ => ?_
  subst he
  exact ⟨_, rfl, _, _, _, [], _, [], hW', trodAll_mk1 (shut_bool Try.underlying4 _), (trodAll_cons_mk (Below.trod laidOut (by kernel_rfl) (of_decide_eq_true (by kernel_rfl)) h0 bel lt0) (trodAll_cons_mk (Below.trod laidOut (by kernel_rfl) (of_decide_eq_true (by kernel_rfl)) h1 bel lt1) trodAll_mk0)), rfl, bel.frame _, fun h => by cases h⟩

theorem jn : Try.pinned.checked.prog.funcNamed Rows.fnDitchFlowsRow.func = some 3 := by kernel_rfl
theorem jf : joinedFacts Try.pinned.checked.prog 3 Try.f3 Rows.fnDitchFlowsSpec Rows.fnDitchFlowsRow = true := by kernel_rfl
theorem ji : Try.f3.isInstance Try.pinned.checked.prog Rows.fnDitchFlowsRow.origin Rows.fnDitchFlowsRow.targs := of_decide_eq_true (by kernel_rfl)
theorem jw : Try.f3.isWrapper Try.pinned.checked.prog Rows.fnDitchFlowsRow.wrapper Rows.fnDitchFlowsRow.mainSum := by unfold Func.isWrapper; first | (rw [if_pos (by decide +kernel)]; kernel_rfl) | (rw [if_neg (by decide +kernel)]; exact ⟨rfl, rfl⟩)
theorem over : Rows.fnDitchFlowsRow.holds Try.pinned (OpenSpec.ofChange Rows.fnDitchFlowsSpec) :=
  OpenClaim.holds_of_wide 3 Try.f3 rfl rfl rfl rfl rfl rfl rfl ⟨rfl, rfl, rfl, rfl, rfl⟩ rfl rfl rfl rfl rfl jn Try.func3 jf ji jw
    (fun os started H enc _ => lifted os started H enc)

theorem proved : Rows.FnDitchFlowsSaid := over
#print axioms proved
end Go.Proofs.Ythgjcanhemohfaa.fnDitchFlows

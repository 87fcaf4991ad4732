/-
  The law FnGates: it returns true for every input, and each argument reads afterwards as before. Condition: the variables that the row lists hold what the program's text lays, which the given tie says. The walk is the contract gatesLaw_ok.
-/
import Derived.Test.YthgjcanhemohfaaDoorRows
import Derived.Test.YthgjcanhemohfaaDoorCards
import Derived.Test.YthgjcanhemohfaaDoorTie
import Derived.WalkKit
import Derived.ProofKit
import Derived.LaidMore
import Derived.OpenShut
import Derived.ShutString
import Derived.ChangeOld
import Derived.Below
import Derived.Stop.Joined
import Derived.SevenTiedAt
import Derived.Stop.LaidErr
import Derived.Lib.LaidTab
import Derived.Lay
import Derived.Test.YthgjcanhemohfaaDoorRead
import Derived.Test.YthgjcanhemohfaaDoorDoor
import Derived.Test.YthgjcanhemohfaaDoorGatLaw
namespace Go.Proofs.YthgjcanhemohfaaDoor.fnGates
open Go.ChangeShapes Go.WideShapes Go.ChangeAt Go.RowKit
open Go
set_option linter.unusedVariables false
set_option maxRecDepth 100000

theorem own : ownKnob Tryd.prog.godebug = none := by kernel_rfl
theorem laidOut : laidOutB Tryd.prog = true := by kernel_rfl
theorem door_met (os : Os) (args : Array Value) : laidMetH Tryd.prog Rows.fnGatesRow.laid ((World.laidAll Tryd.prog os Rows.fnGatesRow.laid).forCall (fun _ _ => 0) ⟨#[], args, []⟩).memory := by
  rw [MakeChecks.laidMetH_plain _ _ _ (by kernel_rfl)]
  exact laidMet_laidAll _ (by kernel_rfl) (by kernel_rfl)

theorem tabSame : @Rows.laid_internal_strconv_uint64pow10 Unit = Lib.tabData .u64 Lib.pow10Tab := by kernel_rfl
theorem listed {W : World} (h : laidMetH Tryd.prog Rows.fnGatesRow.laid W) (hsh : W.ShapedOpen Tryd.prog) : AG.Laid Tryd.prog W (AG.laidX Tryd.prog) := by
  rw [MakeChecks.laidMetH_plain _ _ _ (by kernel_rfl)] at h
  have hm : laidMet Tryd.prog [("math/bits.deBruijn32tab", Rows.laid_math_bits_deBruijn32tab), ("math/bits.deBruijn64tab", Rows.laid_math_bits_deBruijn64tab), ("internal/strconv.uint64pow10", Rows.laid_internal_strconv_uint64pow10)] W := h
  have h1 := hm.tail.tail
  rw [tabSame] at h1
  have t1 := Lib.tabIs_of_head (k := .u64) (zs := Lib.pow10Tab) (g := 0) (t := 79) (e := 63) (n := 20) (by kernel_rfl) (by kernel_rfl) Tryd.underlying79 Tryd.underlying63 (by kernel_rfl) (by kernel_rfl) h1
  refine AG.Laid.of_vars fun q hq g hg => ?_
  simp only [AG.knownVars, List.mem_cons, List.not_mem_nil, or_false] at hq
  rcases hq with rfl | rfl | rfl | rfl
  · exact ⟨_, t1, rfl⟩
  · exact absurd hg (by simp [show Tryd.prog.globalNamed "strconv.ErrRange" = none by kernel_rfl])
  · exact absurd hg (by simp [show Tryd.prog.globalNamed "strconv.ErrSyntax" = none by kernel_rfl])
  · exact absurd hg (by simp [show Tryd.prog.globalNamed "internal/bytealg.MaxLen" = none by kernel_rfl])

theorem lifted (os : Os) (started : os.Started) (H : Type) (enc : TypeId × Value → H) :
    ReturnsInHanded {} Tryd.checked os 3 .any (fun w args => (Rows.fnGatesSpec.pre enc Tryd.prog Tryd.f3 [] false w args ∧ laidMetH Tryd.prog Rows.fnGatesRow.laid w) ∧ sizedMet enc Tryd.prog Tryd.f3 (OpenSpec.ofChange Rows.fnGatesSpec) false w args)
      (Rows.fnGatesSpec.post enc Tryd.prog Tryd.f3 false true false false) := by
  refine AG.handed_shaped (C := Tryd.checked) (X := fun w _ => laidMetH Tryd.prog Rows.fnGatesRow.laid w) (fun _ _ _ hh h => h.of_heap hh) own started (by kernel_rfl) Tryd.func3
    (ChangeSpec.witness_shaped (enc := enc) (C := Tryd.checked) (os := os) (X := fun w _ => laidMetH Tryd.prog Rows.fnGatesRow.laid w) false (World.laidAll Tryd.prog os Rows.fnGatesRow.laid) #[.slice none 0 0] 8 (World.laidAll_os _ _ _) (World.shaped_of_ZipB (by kernel_rfl) (by kernel_rfl)) (by kernel_rfl) (by kernel_rfl) (by kernel_rfl) (door_met os _)) ?_
  intro W base args ds gs before hval0 hW hL hsh
  have hval : ∀ (j : Nat) t v, Tryd.f3.params[j]? = some t → args[j]? = some v → Value.okWide Tryd.prog W .any base t v := hval0
  have hW' := hW
  obtain ⟨p, q, hA0, hV, rfl, hfz, hnd⟩ := hW
  have hA : DataW.TrodAll enc Tryd.prog W 0 (fun _ => true) true Tryd.f3.params.toList args.toList ds p := hA0
  rw [Tryd.params3] at hA hval
  have hlaid := listed hL hsh
  obtain ⟨v0, vs0, d0, ds0, p0, q0, hargs, rfl, rfl, h0, r0⟩ := trodAll_cons hA
  obtain ⟨rfl, rfl, rfl⟩ := trodAll_nil r0
  obtain rfl : args = #[v0] := by cases args; simp_all
  obtain ⟨rfl, rfl⟩ := trodVars_none hV
  have lt0 : ∀ x ∈ p0, x.block < W.heap.size := by obtain ⟨m, hm⟩ := h0; exact DataW.trod_lt m _ _ _ hm
  obtain ⟨x0, f0, g0⟩ := read_bytes H enc W v0 d0 p0 (hval 0 22 v0 rfl rfl) h0
  clear hA0 hval0
  refine (AG.walk_ofX (gatesLaw_ok x0 f0.2 f0.1) hlaid (vs := [v0]) ⟨AG.RepD.bytesX hlaid (g0.toD rfl), trivial⟩).mono fun e W' ⟨he, bel⟩ => ?_
  subst he
  exact ⟨_, rfl, _, _, _, [], _, [], hW', trodAll_mk1 (shut_bool Tryd.underlying4 _), (trodAll_cons_mk (Below.trod laidOut (by kernel_rfl) (of_decide_eq_true (by kernel_rfl)) h0 bel lt0) trodAll_mk0), rfl, bel.frame _, fun h => by cases h⟩

theorem jn : Tryd.pinned.checked.prog.funcNamed Rows.fnGatesRow.func = some 3 := by kernel_rfl
theorem jf : joinedFacts Tryd.pinned.checked.prog 3 Tryd.f3 Rows.fnGatesSpec Rows.fnGatesRow = true := by kernel_rfl
theorem ji : Tryd.f3.isInstance Tryd.pinned.checked.prog Rows.fnGatesRow.origin Rows.fnGatesRow.targs := of_decide_eq_true (by kernel_rfl)
theorem jw : Tryd.f3.isWrapper Tryd.pinned.checked.prog Rows.fnGatesRow.wrapper Rows.fnGatesRow.mainSum := by unfold Func.isWrapper; first | (rw [if_pos (by decide +kernel)]; kernel_rfl) | (rw [if_neg (by decide +kernel)]; exact ⟨rfl, rfl⟩)
theorem over : Rows.fnGatesRow.holds Tryd.pinned (OpenSpec.ofChange Rows.fnGatesSpec) :=
  OpenClaim.holds_of_wide 3 Tryd.f3 rfl rfl rfl rfl rfl rfl rfl ⟨rfl, rfl, rfl, rfl, rfl⟩ rfl rfl rfl rfl rfl jn Tryd.func3 jf ji jw
    (fun os started H enc _ => lifted os started H enc)
theorem wf : Rows.fnGatesRow.wfByText (OpenSpec.ofChange Rows.fnGatesSpec) = true := by kernel_rfl
theorem mi : Tryd.pinned.checked.prog.mainIs = some (true, "be1486747937a1ff8d45cc23caf46f9de9db82245311d6c2adc3b9f878d303d6".toList) := by kernel_rfl
theorem lo : false = Tryd.pinned.checked.prog.looks [] := by kernel_rfl
theorem gb : false = Rows.fnGatesRow.goesBy Tryd.pinned.checked.prog := by kernel_rfl
theorem wants : ([22].all fun u => !Tryd.pinned.checked.prog.wantsStandIn u) = true := by kernel_rfl

theorem proved : Rows.FnGatesCardSaid :=
  Claim7.holds_tied_plain_at .later [] [.data, .data, .data] true (true, "be1486747937a1ff8d45cc23caf46f9de9db82245311d6c2adc3b9f878d303d6") false over (fun _ h => by cases h) wf (fun _ h => by cases h) fnGates_row_tie rfl ⟨rfl, rfl⟩ mi rfl
    (fun f fn hf hfn => by
      obtain rfl : f = 3 := Option.some.inj (jn.symm.trans hf) |>.symm
      obtain rfl : fn = Tryd.f3 := (Option.some.inj (Tryd.func3.symm.trans hfn)).symm
      exact ⟨lo, fun j t ht => by
        rw [Tryd.params3] at ht
        have hm : t ∈ [22] := by simpa using Array.mem_of_getElem? ht
        exact (show Tryd.pinned.checked.prog.wantsStandIn t = false by simpa using List.all_eq_true.1 wants t hm)⟩)
    gb
#print axioms proved
end Go.Proofs.YthgjcanhemohfaaDoor.fnGates

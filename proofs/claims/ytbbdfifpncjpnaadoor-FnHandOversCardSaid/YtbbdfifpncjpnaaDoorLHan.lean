/-
  The law FnHandOvers: it returns true for every input, and each argument reads afterwards as before. Condition: the variables that the row lists hold what the program's text lays, which the given tie says. The walk is the contract hanLaw_ok.
-/
import Derived.Test.YtbbdfifpncjpnaaDoorRows
import Derived.Test.YtbbdfifpncjpnaaDoorCards
import Derived.Test.YtbbdfifpncjpnaaDoorTie
import Derived.WalkKit
import Derived.ProofKit
import Derived.LaidMore
import Derived.OpenShut
import Derived.ShutString
import Derived.ChangeOld
import Derived.Below
import Derived.Stop.Joined
import Derived.SevenTiedAt
import Derived.Stop.LaidErr
import Derived.Lib.LaidTab
import Derived.Lay
import Derived.Test.YtbbdfifpncjpnaaDoorRead
import Derived.Test.YtbbdfifpncjpnaaDoorDoor
import Derived.Test.YtbbdfifpncjpnaaDoorHanLaw
namespace Go.Proofs.YtbbdfifpncjpnaaDoor.fnHandOvers
open Go.ChangeShapes Go.WideShapes Go.ChangeAt Go.RowKit
open Go
set_option linter.unusedVariables false
set_option maxRecDepth 100000

theorem own : ownKnob Tryd.prog.godebug = none := by kernel_rfl
theorem laidOut : laidOutB Tryd.prog = true := by kernel_rfl
theorem door_met (os : Os) (args : Array Value) : laidMetH Tryd.prog Rows.fnHandOversRow.laid ((World.laidAll Tryd.prog os Rows.fnHandOversRow.laid).forCall (fun _ _ => 0) ⟨#[], args, []⟩).memory := by
  rw [MakeChecks.laidMetH_plain _ _ _ (by kernel_rfl)]
  exact laidMet_laidAll _ (by kernel_rfl) (by kernel_rfl)
theorem errRow (u : TypeId) (h : Tryd.prog.typeName? 3 u = some "*errors.errorString") : u = 118 :=
  typeName_ptr_named (nm := "errors.errorString") (by kernel_rfl) (by kernel_rfl) (by decide) u h
theorem tabSame : @Rows.laid_internal_strconv_uint64pow10 Unit = Lib.tabData .u64 Lib.pow10Tab := by kernel_rfl
theorem listed {W : World} (h : laidMetH Tryd.prog Rows.fnHandOversRow.laid W) (hsh : W.ShapedOpen Tryd.prog) : AG.Laid Tryd.prog W (AG.laidX Tryd.prog) := by
  rw [MakeChecks.laidMetH_plain _ _ _ (by kernel_rfl)] at h
  have hm : laidMet Tryd.prog [("math/bits.deBruijn32tab", Rows.laid_math_bits_deBruijn32tab), ("math/bits.deBruijn64tab", Rows.laid_math_bits_deBruijn64tab), ("internal/strconv.uint64pow10", Rows.laid_internal_strconv_uint64pow10), ("strconv.ErrRange", Rows.laid_strconv_ErrRange), ("strconv.ErrSyntax", Rows.laid_strconv_ErrSyntax)] W := h
  have h1 := hm.tail.tail
  rw [tabSame] at h1
  have t1 := Lib.tabIs_of_head (k := .u64) (zs := Lib.pow10Tab) (g := 0) (t := 96) (e := 68) (n := 20) (by kernel_rfl) (by kernel_rfl) Tryd.underlying96 Tryd.underlying68 (by kernel_rfl) (by kernel_rfl) h1
  have h2 := hm.tail.tail.tail
  unfold Rows.laid_strconv_ErrRange at h2
  obtain ⟨a2, s2, t2, _⟩ := laid_sentinel (g := 2) (ti := 83) (tp := 118) (te := 120) (ts := 9) h2 (by kernel_rfl) (by kernel_rfl) Tryd.underlying83 errRow Tryd.underlying118 Tryd.underlying120 rfl rfl Tryd.underlying9 (by kernel_rfl) (by kernel_rfl)
  have h3 := hm.tail.tail.tail.tail
  unfold Rows.laid_strconv_ErrSyntax at h3
  obtain ⟨a3, s3, t3, _⟩ := laid_sentinel (g := 1) (ti := 83) (tp := 118) (te := 120) (ts := 9) h3 (by kernel_rfl) (by kernel_rfl) Tryd.underlying83 errRow Tryd.underlying118 Tryd.underlying120 rfl rfl Tryd.underlying9 (by kernel_rfl) (by kernel_rfl)
  refine AG.Laid.of_vars fun q hq g hg => ?_
  simp only [AG.knownVars, List.mem_cons, List.not_mem_nil, or_false] at hq
  rcases hq with rfl | rfl | rfl | rfl
  · exact ⟨_, t1, rfl⟩
  · exact ⟨_, t2, _, _, rfl⟩
  · exact ⟨_, t3, _, _, rfl⟩
  · exact absurd hg (by simp [show Tryd.prog.globalNamed "internal/bytealg.MaxLen" = none by kernel_rfl])

theorem lifted (os : Os) (started : os.Started) (H : Type) (enc : TypeId × Value → H) :
    ReturnsInHanded {} Tryd.checked os 3 .any (fun w args => (Rows.fnHandOversSpec.pre enc Tryd.prog Tryd.f3 [] false w args ∧ laidMetH Tryd.prog Rows.fnHandOversRow.laid w) ∧ sizedMet enc Tryd.prog Tryd.f3 (OpenSpec.ofChange Rows.fnHandOversSpec) false w args)
      (Rows.fnHandOversSpec.post enc Tryd.prog Tryd.f3 false true false false) := by
  refine AG.handed_shaped (C := Tryd.checked) (X := fun w _ => laidMetH Tryd.prog Rows.fnHandOversRow.laid w) (fun _ _ _ hh h => h.of_heap hh) own started (by kernel_rfl) Tryd.func3
    (ChangeSpec.witness_shaped (enc := enc) (C := Tryd.checked) (os := os) (X := fun w _ => laidMetH Tryd.prog Rows.fnHandOversRow.laid w) false (World.laidAll Tryd.prog os Rows.fnHandOversRow.laid) #[.slice none 0 0] 8 (World.laidAll_os _ _ _) (World.shaped_of_ZipB (by kernel_rfl) (by kernel_rfl)) (by kernel_rfl) (by kernel_rfl) (by kernel_rfl) (door_met os _)) ?_
  intro W base args ds gs before hval0 hW hL hsh
  have hval : ∀ (j : Nat) t v, Tryd.f3.params[j]? = some t → args[j]? = some v → Value.okWide Tryd.prog W .any base t v := hval0
  have hW' := hW
  obtain ⟨p, q, hA0, hV, rfl, hfz, hnd⟩ := hW
  have hA : DataW.TrodAll enc Tryd.prog W 0 (fun _ => true) true Tryd.f3.params.toList args.toList ds p := hA0
  rw [Tryd.params3] at hA hval
  have hlaid := listed hL hsh
  obtain ⟨v0, vs0, d0, ds0, p0, q0, hargs, rfl, rfl, h0, r0⟩ := trodAll_cons hA
  obtain ⟨rfl, rfl, rfl⟩ := trodAll_nil r0
  obtain rfl : args = #[v0] := by cases args; simp_all
  obtain ⟨rfl, rfl⟩ := trodVars_none hV
  have lt0 : ∀ x ∈ p0, x.block < W.heap.size := by obtain ⟨m, hm⟩ := h0; exact DataW.trod_lt m _ _ _ hm
  obtain ⟨x0, f0, g0⟩ := read_bytes H enc W v0 d0 p0 (hval 0 22 v0 rfl rfl) h0
  clear hA0 hval0
  refine (AG.walk_ofX (hanLaw_ok x0 f0.2 f0.1) hlaid (vs := [v0]) ⟨AG.RepD.bytesX hlaid (g0.toD rfl), trivial⟩).mono fun e W' ⟨he, bel⟩ => ?_
  subst he
  exact ⟨_, rfl, _, _, _, [], _, [], hW', trodAll_mk1 (shut_bool Tryd.underlying4 _), (trodAll_cons_mk (Below.trod laidOut (by kernel_rfl) (of_decide_eq_true (by kernel_rfl)) h0 bel lt0) trodAll_mk0), rfl, bel.frame _, fun h => by cases h⟩

theorem jn : Tryd.pinned.checked.prog.funcNamed Rows.fnHandOversRow.func = some 3 := by kernel_rfl
theorem jf : joinedFacts Tryd.pinned.checked.prog 3 Tryd.f3 Rows.fnHandOversSpec Rows.fnHandOversRow = true := by kernel_rfl
theorem ji : Tryd.f3.isInstance Tryd.pinned.checked.prog Rows.fnHandOversRow.origin Rows.fnHandOversRow.targs := of_decide_eq_true (by kernel_rfl)
theorem jw : Tryd.f3.isWrapper Tryd.pinned.checked.prog Rows.fnHandOversRow.wrapper Rows.fnHandOversRow.mainSum := by unfold Func.isWrapper; first | (rw [if_pos (by decide +kernel)]; kernel_rfl) | (rw [if_neg (by decide +kernel)]; exact ⟨rfl, rfl⟩)
theorem over : Rows.fnHandOversRow.holds Tryd.pinned (OpenSpec.ofChange Rows.fnHandOversSpec) :=
  OpenClaim.holds_of_wide 3 Tryd.f3 rfl rfl rfl rfl rfl rfl rfl ⟨rfl, rfl, rfl, rfl, rfl⟩ rfl rfl rfl rfl rfl jn Tryd.func3 jf ji jw
    (fun os started H enc _ => lifted os started H enc)
theorem wf : Rows.fnHandOversRow.wfByText (OpenSpec.ofChange Rows.fnHandOversSpec) = true := by kernel_rfl
theorem mi : Tryd.pinned.checked.prog.mainIs = some (true, "7e3ab65e4f2dd5a6ee042a2d5d173efe8c0ad0364981a148c13fe81fed18f93d".toList) := by kernel_rfl
theorem lo : true = Tryd.pinned.checked.prog.looks [] := by kernel_rfl
theorem gb : false = Rows.fnHandOversRow.goesBy Tryd.pinned.checked.prog := by kernel_rfl
theorem wants : ([22].all fun u => !Tryd.pinned.checked.prog.wantsStandIn u) = true := by kernel_rfl

theorem proved : Rows.FnHandOversCardSaid :=
  Claim7.holds_tied_plain_at .later [] [.data, .data, .data, .sentinel, .sentinel] true (true, "7e3ab65e4f2dd5a6ee042a2d5d173efe8c0ad0364981a148c13fe81fed18f93d") true over (fun _ h => by cases h) wf (fun _ h => by cases h) fnHandOvers_row_tie rfl ⟨rfl, rfl⟩ mi rfl
    (fun f fn hf hfn => by
      obtain rfl : f = 3 := Option.some.inj (jn.symm.trans hf) |>.symm
      obtain rfl : fn = Tryd.f3 := (Option.some.inj (Tryd.func3.symm.trans hfn)).symm
      exact ⟨lo, fun j t ht => by
        rw [Tryd.params3] at ht
        have hm : t ∈ [22] := by simpa using Array.mem_of_getElem? ht
        exact (show Tryd.pinned.checked.prog.wantsStandIn t = false by simpa using List.all_eq_true.1 wants t hm)⟩)
    gb
#print axioms proved
end Go.Proofs.YtbbdfifpncjpnaaDoor.fnHandOvers

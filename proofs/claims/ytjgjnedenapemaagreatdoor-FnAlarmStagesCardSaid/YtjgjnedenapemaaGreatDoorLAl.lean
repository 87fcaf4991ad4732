/-
  The law FnAlarmStages: it returns true for every input, and each argument reads afterwards as before. Condition: the variables that the row lists hold what the program's text lays, which the given tie says. The walk is the contract alarmsLaw_ok.
-/
import Derived.Test.YtjgjnedenapemaaGreatDoorRows
import Derived.Test.YtjgjnedenapemaaGreatDoorCards
import Derived.Test.YtjgjnedenapemaaGreatDoorTie
import Derived.WalkKit
import Derived.ProofKit
import Derived.LaidMore
import Derived.OpenShut
import Derived.ShutString
import Derived.ChangeOld
import Derived.Below
import Derived.Stop.Joined
import Derived.SevenTiedAt
import Derived.Stop.LaidErr
import Derived.Lib.LaidTab
import Derived.Lay
import Derived.Test.YtjgjnedenapemaaGreatDoorRead
import Derived.Test.YtjgjnedenapemaaGreatDoorDoor
import Derived.Test.YtjgjnedenapemaaGreatDoorAlLaw
namespace Go.Proofs.YtjgjnedenapemaaGreatDoor.fnAlarmStages
open Go.ChangeShapes Go.WideShapes Go.ChangeAt Go.RowKit
open Go
set_option linter.unusedVariables false
set_option maxRecDepth 100000

theorem own : ownKnob Tryz.prog.godebug = none := by kernel_rfl
theorem laidOut : laidOutB Tryz.prog = true := by kernel_rfl
theorem door_met (os : Os) (args : Array Value) : laidMetH Tryz.prog Rows.fnAlarmStagesRow.laid ((World.laidAll Tryz.prog os Rows.fnAlarmStagesRow.laid).forCall (fun _ _ => 0) ⟨#[], args, []⟩).memory := by
  rw [MakeChecks.laidMetH_plain _ _ _ (by kernel_rfl)]
  exact laidMet_laidAll _ (by kernel_rfl) (by kernel_rfl)
theorem errRow (u : TypeId) (h : Tryz.prog.typeName? 3 u = some "*errors.errorString") : u = 241 :=
  typeName_ptr_named (nm := "errors.errorString") (by kernel_rfl) (by kernel_rfl) (by decide) u h
theorem tabSame : @Rows.laid_internal_strconv_uint64pow10 Unit = Lib.tabData .u64 Lib.pow10Tab := by kernel_rfl
theorem listed {W : World} (h : laidMetH Tryz.prog Rows.fnAlarmStagesRow.laid W) (hsh : W.ShapedOpen Tryz.prog) : AG.Laid Tryz.prog W (AG.laidX Tryz.prog) := by
  rw [MakeChecks.laidMetH_plain _ _ _ (by kernel_rfl)] at h
  have hm : laidMet Tryz.prog [("math/bits.deBruijn32tab", Rows.laid_math_bits_deBruijn32tab), ("math/bits.deBruijn64tab", Rows.laid_math_bits_deBruijn64tab), ("internal/strconv.uint64pow10", Rows.laid_internal_strconv_uint64pow10), ("unicode/utf8.acceptRanges", Rows.laid_unicode_utf8_acceptRanges), ("strconv.ErrRange", Rows.laid_strconv_ErrRange), ("strconv.ErrSyntax", Rows.laid_strconv_ErrSyntax), ("unicode/utf8.first", Rows.laid_unicode_utf8_first)] W := h
  have h1 := hm.tail.tail
  rw [tabSame] at h1
  have t1 := Lib.tabIs_of_head (k := .u64) (zs := Lib.pow10Tab) (g := 1) (t := 200) (e := 78) (n := 20) (by kernel_rfl) (by kernel_rfl) Tryz.underlying200 Tryz.underlying78 (by kernel_rfl) (by kernel_rfl) h1
  have h2 := hm.tail.tail.tail.tail
  unfold Rows.laid_strconv_ErrRange at h2
  obtain ⟨a2, s2, t2, _⟩ := laid_sentinel (g := 5) (ti := 89) (tp := 241) (te := 243) (ts := 9) h2 (by kernel_rfl) (by kernel_rfl) Tryz.underlying89 errRow Tryz.underlying241 Tryz.underlying243 rfl rfl Tryz.underlying9 (by kernel_rfl) (by kernel_rfl)
  have h3 := hm.tail.tail.tail.tail.tail
  unfold Rows.laid_strconv_ErrSyntax at h3
  obtain ⟨a3, s3, t3, _⟩ := laid_sentinel (g := 4) (ti := 89) (tp := 241) (te := 243) (ts := 9) h3 (by kernel_rfl) (by kernel_rfl) Tryz.underlying89 errRow Tryz.underlying241 Tryz.underlying243 rfl rfl Tryz.underlying9 (by kernel_rfl) (by kernel_rfl)
  refine AG.Laid.of_vars fun q hq g hg => ?_
  simp only [AG.knownVars, List.mem_cons, List.not_mem_nil, or_false] at hq
  rcases hq with rfl | rfl | rfl | rfl
  · exact ⟨_, t1, rfl⟩
  · exact ⟨_, t2, _, _, rfl⟩
  · exact ⟨_, t3, _, _, rfl⟩
  · exact AG.var_of_shaped (g := 0) (t := 3) (zero := #[.int .i64 0]) (by kernel_rfl) hsh (of_decide_eq_true (by kernel_rfl)) (by kernel_rfl) rfl (by kernel_rfl) (by kernel_rfl) Tryz.underlying3

theorem lifted (os : Os) (started : os.Started) (H : Type) (enc : TypeId × Value → H) :
    ReturnsInHanded {} Tryz.checked os 3 .any (fun w args => (Rows.fnAlarmStagesSpec.pre enc Tryz.prog Tryz.f3 [] false w args ∧ laidMetH Tryz.prog Rows.fnAlarmStagesRow.laid w) ∧ sizedMet enc Tryz.prog Tryz.f3 (OpenSpec.ofChange Rows.fnAlarmStagesSpec) false w args)
      (Rows.fnAlarmStagesSpec.post enc Tryz.prog Tryz.f3 false true false false) := by
  refine AG.handed_shaped (C := Tryz.checked) (X := fun w _ => laidMetH Tryz.prog Rows.fnAlarmStagesRow.laid w) (fun _ _ _ hh h => h.of_heap hh) own started (by kernel_rfl) Tryz.func3
    (ChangeSpec.witness_shaped (enc := enc) (C := Tryz.checked) (os := os) (X := fun w _ => laidMetH Tryz.prog Rows.fnAlarmStagesRow.laid w) false (World.laidAll Tryz.prog os Rows.fnAlarmStagesRow.laid) #[.slice none 0 0, .slice none 0 0] 8 (World.laidAll_os _ _ _) (World.shaped_of_ZipB (by kernel_rfl) (by kernel_rfl)) (by kernel_rfl) (by kernel_rfl) (by kernel_rfl) (door_met os _)) ?_
  intro W base args ds gs before hval0 hW hL hsh
  have hval : ∀ (j : Nat) t v, Tryz.f3.params[j]? = some t → args[j]? = some v → Value.okWide Tryz.prog W .any base t v := hval0
  have hW' := hW
  obtain ⟨p, q, hA0, hV, rfl, hfz, hnd⟩ := hW
  have hA : DataW.TrodAll enc Tryz.prog W 0 (fun _ => true) true Tryz.f3.params.toList args.toList ds p := hA0
  rw [Tryz.params3] at hA hval
  have hlaid := listed hL hsh
  obtain ⟨v0, vs0, d0, ds0, p0, q0, hargs, rfl, rfl, h0, r0⟩ := trodAll_cons hA
  obtain ⟨v1, vs1, d1, ds1, p1, q1, rfl, rfl, rfl, h1, r1⟩ := trodAll_cons r0
  obtain ⟨rfl, rfl, rfl⟩ := trodAll_nil r1
  obtain rfl : args = #[v0, v1] := by cases args; simp_all
  obtain ⟨rfl, rfl⟩ := trodVars_none hV
  have lt0 : ∀ x ∈ p0, x.block < W.heap.size := by obtain ⟨m, hm⟩ := h0; exact DataW.trod_lt m _ _ _ hm
  obtain ⟨x0, f0, g0⟩ := read_bytes H enc W v0 d0 p0 (hval 0 22 v0 rfl rfl) h0
  have lt1 : ∀ x ∈ p1, x.block < W.heap.size := by obtain ⟨m, hm⟩ := h1; exact DataW.trod_lt m _ _ _ hm
  obtain ⟨x1, f1, g1⟩ := read_bytes H enc W v1 d1 p1 (hval 1 22 v1 rfl rfl) h1
  clear hA0 hval0
  refine (AG.walk_ofX (alarmsLaw_ok x0 x1 f0.2 f1.2 f0.1 f1.1) hlaid (vs := [v0, v1]) ⟨AG.RepD.bytesX hlaid (g0.toD rfl), AG.RepD.bytesX hlaid (g1.toD rfl), trivial⟩).mono fun e W' ⟨he, bel⟩ => ?_
  subst he
  exact ⟨_, rfl, _, _, _, [], _, [], hW', trodAll_mk1 (shut_bool Tryz.underlying4 _), (trodAll_cons_mk (Below.trod laidOut (by kernel_rfl) (of_decide_eq_true (by kernel_rfl)) h0 bel lt0) (trodAll_cons_mk (Below.trod laidOut (by kernel_rfl) (of_decide_eq_true (by kernel_rfl)) h1 bel lt1) trodAll_mk0)), rfl, bel.frame _, fun h => by cases h⟩

theorem jn : Tryz.pinned.checked.prog.funcNamed Rows.fnAlarmStagesRow.func = some 3 := by kernel_rfl
theorem jf : joinedFacts Tryz.pinned.checked.prog 3 Tryz.f3 Rows.fnAlarmStagesSpec Rows.fnAlarmStagesRow = true := by kernel_rfl
theorem ji : Tryz.f3.isInstance Tryz.pinned.checked.prog Rows.fnAlarmStagesRow.origin Rows.fnAlarmStagesRow.targs := of_decide_eq_true (by kernel_rfl)
theorem jw : Tryz.f3.isWrapper Tryz.pinned.checked.prog Rows.fnAlarmStagesRow.wrapper Rows.fnAlarmStagesRow.mainSum := by unfold Func.isWrapper; first | (rw [if_pos (by decide +kernel)]; kernel_rfl) | (rw [if_neg (by decide +kernel)]; exact ⟨rfl, rfl⟩)
theorem over : Rows.fnAlarmStagesRow.holds Tryz.pinned (OpenSpec.ofChange Rows.fnAlarmStagesSpec) :=
  OpenClaim.holds_of_wide 3 Tryz.f3 rfl rfl rfl rfl rfl rfl rfl ⟨rfl, rfl, rfl, rfl, rfl⟩ rfl rfl rfl rfl rfl jn Tryz.func3 jf ji jw
    (fun os started H enc _ => lifted os started H enc)
theorem wf : Rows.fnAlarmStagesRow.wfByText (OpenSpec.ofChange Rows.fnAlarmStagesSpec) = true := by kernel_rfl
theorem mi : Tryz.pinned.checked.prog.mainIs = some (true, "a623978d0ba232e49f11997271f6ee48fdabc17889b2a15c6257dce6f14d03c6".toList) := by kernel_rfl
theorem lo : true = Tryz.pinned.checked.prog.looks [] := by kernel_rfl
theorem gb : false = Rows.fnAlarmStagesRow.goesBy Tryz.pinned.checked.prog := by kernel_rfl
theorem wants : ([22, 22].all fun u => !Tryz.pinned.checked.prog.wantsStandIn u) = true := by kernel_rfl

theorem proved : Rows.FnAlarmStagesCardSaid :=
  Claim7.holds_tied_plain_at .later [] [.data, .data, .data, .data, .sentinel, .sentinel, .pinned] true (true, "a623978d0ba232e49f11997271f6ee48fdabc17889b2a15c6257dce6f14d03c6") true over (fun _ h => by cases h) wf (fun _ h => by cases h) fnAlarmStages_row_tie rfl ⟨rfl, rfl⟩ mi rfl
    (fun f fn hf hfn => by
      obtain rfl : f = 3 := Option.some.inj (jn.symm.trans hf) |>.symm
      obtain rfl : fn = Tryz.f3 := (Option.some.inj (Tryz.func3.symm.trans hfn)).symm
      exact ⟨lo, fun j t ht => by
        rw [Tryz.params3] at ht
        have hm : t ∈ [22, 22] := by simpa using Array.mem_of_getElem? ht
        exact (show Tryz.pinned.checked.prog.wantsStandIn t = false by simpa using List.all_eq_true.1 wants t hm)⟩)
    gb
#print axioms proved
end Go.Proofs.YtjgjnedenapemaaGreatDoor.fnAlarmStages

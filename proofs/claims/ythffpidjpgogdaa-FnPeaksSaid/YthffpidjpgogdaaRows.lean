/-
  No cell of these rows narrows 'for every input' (looked for: loops, veiled, ifaces, maps, wideKeys, modest, calm, conditions, laid).
  DERIVED. THE GIVEN ROWS OF THIS SEAT. 6 by the template 'for every input the law returns true; each argument reads behind the call as it read before'; 0 by the template 'total and deterministic' (their statements: YthffpidjpgogdaaTotals.lean).
  GIVEN WITH THE SEED: the statements are not yours to turn. If you find one false, say at which input.
  Laid BY PROGRAM, IN A SANDBOX (cutbox-rows.mjs): the forced cells as the released guide's own fill.sh prints them over the translation f10066b75741918b… (all of the seat's roots in one cut). By AI agents, Wed Nov 11 2026. No macro, syntax, notation, axiom, sorry.
-/
import Derived.Test.YthffpidjpgogdaaChecked
import GoSem.Claim
import GoSem.ClaimJoined
import GoSem.ClaimMapViews
import Derived.JoinedTies
import Derived.KernelRfl
namespace Go.Proofs.Ythffpidjpgogdaa
/- THE CELL 'sum', in the pinned program and in every row, IS THE sha256 OF THE DUMP (.gsa) THAT YthffpidjpgogdaaProg.lean LOADS. Nothing in Lean hashes anything: it is a label: what it is worth is what the hold of that sum in a sandbox is worth. -/
noncomputable def Try.pinned : Pinned := { name := "ythffpidjpgogdaa", sum := "f10066b75741918bcc567d01ece15ee6852464dda9851af47e355360a7b3d013", checked := Try.checked }
namespace Rows
def none {H : Type} : Left H := { results := [], args := [] }

/-- 'laws.FnStorage': WHATEVER THE INPUT: true; the input reads as it did. -/
def fnStorageSpec : ChangeSpec := { name := "fnStorage", fn := fun _ => fun
  | [d] => { results := [.lit (.bool true)], args := [d] }
  | _ => none }
def fnStorageRow : OpenClaim := { program := "ythffpidjpgogdaa", sum := "f10066b75741918bcc567d01ece15ee6852464dda9851af47e355360a7b3d013", func := "loop.example/g01032/laws.FnStorage", spec := "fnStorage", apart := false }
def FnStorageSaid : Prop := fnStorageRow.holds Try.pinned (OpenSpec.ofChange fnStorageSpec)

/-- ITS FALSE NEIGHBOUR: 'it returns false'. Refute it at one input. -/
def fnStorageWrong : ChangeSpec := { name := "fnStorage", fn := fun _ => fun
  | [d] => { results := [.lit (.bool false)], args := [d] }
  | _ => none }
def FnStorageWrongFalsely : Prop := fnStorageRow.holds Try.pinned (OpenSpec.ofChange fnStorageWrong)

/-- 'laws.FnSwitchings': WHATEVER THE INPUT: true; the input reads as it did. -/
def fnSwitchingsSpec : ChangeSpec := { name := "fnSwitchings", fn := fun _ => fun
  | [d1, d2] => { results := [.lit (.bool true)], args := [d1, d2] }
  | _ => none }
def fnSwitchingsRow : OpenClaim := { program := "ythffpidjpgogdaa", sum := "f10066b75741918bcc567d01ece15ee6852464dda9851af47e355360a7b3d013", func := "loop.example/g01032/laws.FnSwitchings", spec := "fnSwitchings", unfollowed := true, recurses := true, apart := false }
def FnSwitchingsSaid : Prop := fnSwitchingsRow.holds Try.pinned (OpenSpec.ofChange fnSwitchingsSpec)

/-- ITS FALSE NEIGHBOUR: 'it returns false'. Refute it at one input. -/
def fnSwitchingsWrong : ChangeSpec := { name := "fnSwitchings", fn := fun _ => fun
  | [d1, d2] => { results := [.lit (.bool false)], args := [d1, d2] }
  | _ => none }
def FnSwitchingsWrongFalsely : Prop := fnSwitchingsRow.holds Try.pinned (OpenSpec.ofChange fnSwitchingsWrong)

/-- 'laws.FnClosings': WHATEVER THE INPUT: true; the input reads as it did. -/
def fnClosingsSpec : ChangeSpec := { name := "fnClosings", fn := fun _ => fun
  | [d1, d2] => { results := [.lit (.bool true)], args := [d1, d2] }
  | _ => none }
def fnClosingsRow : OpenClaim := { program := "ythffpidjpgogdaa", sum := "f10066b75741918bcc567d01ece15ee6852464dda9851af47e355360a7b3d013", func := "loop.example/g01032/laws.FnClosings", spec := "fnClosings", unfollowed := true, recurses := true, apart := false }
def FnClosingsSaid : Prop := fnClosingsRow.holds Try.pinned (OpenSpec.ofChange fnClosingsSpec)

/-- ITS FALSE NEIGHBOUR: 'it returns false'. Refute it at one input. -/
def fnClosingsWrong : ChangeSpec := { name := "fnClosings", fn := fun _ => fun
  | [d1, d2] => { results := [.lit (.bool false)], args := [d1, d2] }
  | _ => none }
def FnClosingsWrongFalsely : Prop := fnClosingsRow.holds Try.pinned (OpenSpec.ofChange fnClosingsWrong)

/-- 'laws.FnWatched': WHATEVER THE INPUT: true; the input reads as it did. -/
def fnWatchedSpec : ChangeSpec := { name := "fnWatched", fn := fun _ => fun
  | [d] => { results := [.lit (.bool true)], args := [d] }
  | _ => none }
def fnWatchedRow : OpenClaim := { program := "ythffpidjpgogdaa", sum := "f10066b75741918bcc567d01ece15ee6852464dda9851af47e355360a7b3d013", func := "loop.example/g01032/laws.FnWatched", spec := "fnWatched", unfollowed := true, recurses := true, apart := false }
def FnWatchedSaid : Prop := fnWatchedRow.holds Try.pinned (OpenSpec.ofChange fnWatchedSpec)

/-- ITS FALSE NEIGHBOUR: 'it returns false'. Refute it at one input. -/
def fnWatchedWrong : ChangeSpec := { name := "fnWatched", fn := fun _ => fun
  | [d] => { results := [.lit (.bool false)], args := [d] }
  | _ => none }
def FnWatchedWrongFalsely : Prop := fnWatchedRow.holds Try.pinned (OpenSpec.ofChange fnWatchedWrong)

/-- 'laws.FnPeaks': WHATEVER THE INPUT: true; the input reads as it did. -/
def fnPeaksSpec : ChangeSpec := { name := "fnPeaks", fn := fun _ => fun
  | [d] => { results := [.lit (.bool true)], args := [d] }
  | _ => none }
def fnPeaksRow : OpenClaim := { program := "ythffpidjpgogdaa", sum := "f10066b75741918bcc567d01ece15ee6852464dda9851af47e355360a7b3d013", func := "loop.example/g01032/laws.FnPeaks", spec := "fnPeaks", unfollowed := true, recurses := true, apart := false }
def FnPeaksSaid : Prop := fnPeaksRow.holds Try.pinned (OpenSpec.ofChange fnPeaksSpec)

/-- ITS FALSE NEIGHBOUR: 'it returns false'. Refute it at one input. -/
def fnPeaksWrong : ChangeSpec := { name := "fnPeaks", fn := fun _ => fun
  | [d] => { results := [.lit (.bool false)], args := [d] }
  | _ => none }
def FnPeaksWrongFalsely : Prop := fnPeaksRow.holds Try.pinned (OpenSpec.ofChange fnPeaksWrong)

/-- 'laws.FnDuties': WHATEVER THE INPUT: true; the input reads as it did. -/
def fnDutiesSpec : ChangeSpec := { name := "fnDuties", fn := fun _ => fun
  | [d] => { results := [.lit (.bool true)], args := [d] }
  | _ => none }
def fnDutiesRow : OpenClaim := { program := "ythffpidjpgogdaa", sum := "f10066b75741918bcc567d01ece15ee6852464dda9851af47e355360a7b3d013", func := "loop.example/g01032/laws.FnDuties", spec := "fnDuties", inPlace := ["internal/reflectlite.ValueOf", "internal/reflectlite.Swapper", "(internal/reflectlite.Value).Len"], unfollowed := true, recurses := true, apart := false }
def FnDutiesSaid : Prop := fnDutiesRow.holds Try.pinned (OpenSpec.ofChange fnDutiesSpec)

/-- ITS FALSE NEIGHBOUR: 'it returns false'. Refute it at one input. -/
def fnDutiesWrong : ChangeSpec := { name := "fnDuties", fn := fun _ => fun
  | [d] => { results := [.lit (.bool false)], args := [d] }
  | _ => none }
def FnDutiesWrongFalsely : Prop := fnDutiesRow.holds Try.pinned (OpenSpec.ofChange fnDutiesWrong)

/- THE SECOND FORM. 'bulk': how many values and letters a reading holds, each counted each time it is reached (what is shared counts as often as it is met; a slice's spare places count too). A statement '..UptoSaid' is the law's where the arguments, and the package variables that the reading takes, are together of bulk at most 1048576: NARROWER than '..Said'. Prove '..Said' where nothing that the law and all that it calls make is longer than what came in: it says more and counts as full. Else prove '..UptoSaid'. A law counts once. -/
mutual
def uptoBulk {H : Type} : DataW H → Nat
  | .lit (.string bytes) => bytes.length + 1
  | .lit _ => 1
  | .nil => 1
  | .ptr d => uptoBulk d + 1
  | .slice elems spare => uptoBulkAll elems + uptoBulkAll spare + 1
  | .agg parts => uptoBulkAll parts + 1
  | .iface _ d => uptoBulk d + 1
  | .map entries => uptoBulkEntries entries + 1
  | .held _ => 1
def uptoBulkAll {H : Type} : List (DataW H) → Nat
  | [] => 0
  | d :: r => uptoBulk d + uptoBulkAll r
def uptoBulkEntries {H : Type} : List (Lit × DataW H) → Nat
  | [] => 0
  | x :: r => uptoBulkEntry x + uptoBulkEntries r
def uptoBulkEntry {H : Type} : Lit × DataW H → Nat
  | (.string bytes, d) => bytes.length + uptoBulk d + 1
  | (_, d) => uptoBulk d + 1
 end
def uptoSmall : (H : Type) → List (DataW H) → Bool := fun _ ds => decide (uptoBulkAll ds ≤ 1048576)
def OpenSpec.upto (s : _root_.Go.ChangeSpec) : _root_.Go.OpenSpec := { _root_.Go.OpenSpec.ofChange s with cond := some uptoSmall }

/-- 'laws.FnStorage', WHERE WHAT IT READS IS OF BULK AT MOST 1048576: true; the input reads as it did. -/
def fnStorageUptoRow : OpenClaim := { program := "ythffpidjpgogdaa", sum := "f10066b75741918bcc567d01ece15ee6852464dda9851af47e355360a7b3d013", func := "loop.example/g01032/laws.FnStorage", spec := "fnStorage", apart := false, narrowed := true }
def FnStorageUptoSaid : Prop := fnStorageUptoRow.holds Try.pinned (OpenSpec.upto fnStorageSpec)

/-- 'laws.FnSwitchings', WHERE WHAT IT READS IS OF BULK AT MOST 1048576: true; the input reads as it did. -/
def fnSwitchingsUptoRow : OpenClaim := { program := "ythffpidjpgogdaa", sum := "f10066b75741918bcc567d01ece15ee6852464dda9851af47e355360a7b3d013", func := "loop.example/g01032/laws.FnSwitchings", spec := "fnSwitchings", unfollowed := true, recurses := true, apart := false, narrowed := true }
def FnSwitchingsUptoSaid : Prop := fnSwitchingsUptoRow.holds Try.pinned (OpenSpec.upto fnSwitchingsSpec)

/-- 'laws.FnClosings', WHERE WHAT IT READS IS OF BULK AT MOST 1048576: true; the input reads as it did. -/
def fnClosingsUptoRow : OpenClaim := { program := "ythffpidjpgogdaa", sum := "f10066b75741918bcc567d01ece15ee6852464dda9851af47e355360a7b3d013", func := "loop.example/g01032/laws.FnClosings", spec := "fnClosings", unfollowed := true, recurses := true, apart := false, narrowed := true }
def FnClosingsUptoSaid : Prop := fnClosingsUptoRow.holds Try.pinned (OpenSpec.upto fnClosingsSpec)

/-- 'laws.FnWatched', WHERE WHAT IT READS IS OF BULK AT MOST 1048576: true; the input reads as it did. -/
def fnWatchedUptoRow : OpenClaim := { program := "ythffpidjpgogdaa", sum := "f10066b75741918bcc567d01ece15ee6852464dda9851af47e355360a7b3d013", func := "loop.example/g01032/laws.FnWatched", spec := "fnWatched", unfollowed := true, recurses := true, apart := false, narrowed := true }
def FnWatchedUptoSaid : Prop := fnWatchedUptoRow.holds Try.pinned (OpenSpec.upto fnWatchedSpec)

/-- 'laws.FnPeaks', WHERE WHAT IT READS IS OF BULK AT MOST 1048576: true; the input reads as it did. -/
def fnPeaksUptoRow : OpenClaim := { program := "ythffpidjpgogdaa", sum := "f10066b75741918bcc567d01ece15ee6852464dda9851af47e355360a7b3d013", func := "loop.example/g01032/laws.FnPeaks", spec := "fnPeaks", unfollowed := true, recurses := true, apart := false, narrowed := true }
def FnPeaksUptoSaid : Prop := fnPeaksUptoRow.holds Try.pinned (OpenSpec.upto fnPeaksSpec)

/-- 'laws.FnDuties', WHERE WHAT IT READS IS OF BULK AT MOST 1048576: true; the input reads as it did. -/
def fnDutiesUptoRow : OpenClaim := { program := "ythffpidjpgogdaa", sum := "f10066b75741918bcc567d01ece15ee6852464dda9851af47e355360a7b3d013", func := "loop.example/g01032/laws.FnDuties", spec := "fnDuties", inPlace := ["internal/reflectlite.ValueOf", "internal/reflectlite.Swapper", "(internal/reflectlite.Value).Len"], unfollowed := true, recurses := true, apart := false, narrowed := true }
def FnDutiesUptoSaid : Prop := fnDutiesUptoRow.holds Try.pinned (OpenSpec.upto fnDutiesSpec)

end Rows
end Go.Proofs.Ythffpidjpgogdaa

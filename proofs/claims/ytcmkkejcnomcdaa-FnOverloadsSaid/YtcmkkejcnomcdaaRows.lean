/-
  No cell of these rows narrows 'for every input' (looked for: loops, veiled, ifaces, maps, wideKeys, modest, calm, conditions, laid).
  DERIVED. THE GIVEN ROWS OF THIS SEAT. 3 by the template 'for every input the law returns true; each argument reads behind the call as it read before'; 0 by the template 'total and deterministic' (their statements: YtcmkkejcnomcdaaTotals.lean).
  GIVEN WITH THE SEED: the statements are not yours to turn. If you find one false, say at which input.
  Laid BY PROGRAM, IN A SANDBOX (cutbox-rows.mjs): the forced cells as the released guide's own fill.sh prints them over the translation d0ad9478ff3cd3f3… (all of the seat's roots in one cut). By AI agents, Wed Nov 11 2026. No macro, syntax, notation, axiom, sorry.
-/
import Derived.Test.YtcmkkejcnomcdaaChecked
import GoSem.Claim
import GoSem.ClaimJoined
import GoSem.ClaimMapViews
import Derived.JoinedTies
import Derived.KernelRfl
namespace Go.Proofs.Ytcmkkejcnomcdaa
/- THE CELL 'sum', in the pinned program and in every row, IS THE sha256 OF THE DUMP (.gsa) THAT YtcmkkejcnomcdaaProg.lean LOADS. Nothing in Lean hashes anything: it is a label: what it is worth is what the hold of that sum in a sandbox is worth. -/
noncomputable def Try.pinned : Pinned := { name := "ytcmkkejcnomcdaa", sum := "d0ad9478ff3cd3f3456d13ff578941a52b4e33d5ba40387fd945f9663618f9cd", checked := Try.checked }
namespace Rows
def none {H : Type} : Left H := { results := [], args := [] }

/-- 'laws.FnOverloads': WHATEVER THE INPUT: true; the input reads as it did. -/
def fnOverloadsSpec : ChangeSpec := { name := "fnOverloads", fn := fun _ => fun
  | [d] => { results := [.lit (.bool true)], args := [d] }
  | _ => none }
def fnOverloadsRow : OpenClaim := { program := "ytcmkkejcnomcdaa", sum := "d0ad9478ff3cd3f3456d13ff578941a52b4e33d5ba40387fd945f9663618f9cd", func := "loop.example/g01032/laws.FnOverloads", spec := "fnOverloads", unfollowed := true, recurses := true, apart := false }
def FnOverloadsSaid : Prop := fnOverloadsRow.holds Try.pinned (OpenSpec.ofChange fnOverloadsSpec)

/-- ITS FALSE NEIGHBOUR: 'it returns false'. Refute it at one input. -/
def fnOverloadsWrong : ChangeSpec := { name := "fnOverloads", fn := fun _ => fun
  | [d] => { results := [.lit (.bool false)], args := [d] }
  | _ => none }
def FnOverloadsWrongFalsely : Prop := fnOverloadsRow.holds Try.pinned (OpenSpec.ofChange fnOverloadsWrong)

/-- 'laws.FnCuts': WHATEVER THE INPUT: true; the input reads as it did. -/
def fnCutsSpec : ChangeSpec := { name := "fnCuts", fn := fun _ => fun
  | [d] => { results := [.lit (.bool true)], args := [d] }
  | _ => none }
def fnCutsRow : OpenClaim := { program := "ytcmkkejcnomcdaa", sum := "d0ad9478ff3cd3f3456d13ff578941a52b4e33d5ba40387fd945f9663618f9cd", func := "loop.example/g01032/laws.FnCuts", spec := "fnCuts", unfollowed := true, recurses := true, apart := false }
def FnCutsSaid : Prop := fnCutsRow.holds Try.pinned (OpenSpec.ofChange fnCutsSpec)

/-- ITS FALSE NEIGHBOUR: 'it returns false'. Refute it at one input. -/
def fnCutsWrong : ChangeSpec := { name := "fnCuts", fn := fun _ => fun
  | [d] => { results := [.lit (.bool false)], args := [d] }
  | _ => none }
def FnCutsWrongFalsely : Prop := fnCutsRow.holds Try.pinned (OpenSpec.ofChange fnCutsWrong)

/-- 'laws.FnWatched': WHATEVER THE INPUT: true; the input reads as it did. -/
def fnWatchedSpec : ChangeSpec := { name := "fnWatched", fn := fun _ => fun
  | [d] => { results := [.lit (.bool true)], args := [d] }
  | _ => none }
def fnWatchedRow : OpenClaim := { program := "ytcmkkejcnomcdaa", sum := "d0ad9478ff3cd3f3456d13ff578941a52b4e33d5ba40387fd945f9663618f9cd", func := "loop.example/g01032/laws.FnWatched", spec := "fnWatched", unfollowed := true, recurses := true, apart := false }
def FnWatchedSaid : Prop := fnWatchedRow.holds Try.pinned (OpenSpec.ofChange fnWatchedSpec)

/-- ITS FALSE NEIGHBOUR: 'it returns false'. Refute it at one input. -/
def fnWatchedWrong : ChangeSpec := { name := "fnWatched", fn := fun _ => fun
  | [d] => { results := [.lit (.bool false)], args := [d] }
  | _ => none }
def FnWatchedWrongFalsely : Prop := fnWatchedRow.holds Try.pinned (OpenSpec.ofChange fnWatchedWrong)

/- THE SECOND FORM. 'bulk': how many values and letters a reading holds, each counted each time it is reached (what is shared counts as often as it is met; a slice's spare places count too). A statement '..UptoSaid' is the law's where the arguments, and the package variables that the reading takes, are together of bulk at most 1048576: NARROWER than '..Said'. Prove '..Said' where nothing that the law and all that it calls make is longer than what came in: it says more and counts as full. Else prove '..UptoSaid'. A law counts once. -/
mutual
def uptoBulk {H : Type} : DataW H → Nat
  | .lit (.string bytes) => bytes.length + 1
  | .lit _ => 1
  | .nil => 1
  | .ptr d => uptoBulk d + 1
  | .slice elems spare => uptoBulkAll elems + uptoBulkAll spare + 1
  | .agg parts => uptoBulkAll parts + 1
  | .iface _ d => uptoBulk d + 1
  | .map entries => uptoBulkEntries entries + 1
  | .held _ => 1
def uptoBulkAll {H : Type} : List (DataW H) → Nat
  | [] => 0
  | d :: r => uptoBulk d + uptoBulkAll r
def uptoBulkEntries {H : Type} : List (Lit × DataW H) → Nat
  | [] => 0
  | x :: r => uptoBulkEntry x + uptoBulkEntries r
def uptoBulkEntry {H : Type} : Lit × DataW H → Nat
  | (.string bytes, d) => bytes.length + uptoBulk d + 1
  | (_, d) => uptoBulk d + 1
 end
def uptoSmall : (H : Type) → List (DataW H) → Bool := fun _ ds => decide (uptoBulkAll ds ≤ 1048576)
def OpenSpec.upto (s : _root_.Go.ChangeSpec) : _root_.Go.OpenSpec := { _root_.Go.OpenSpec.ofChange s with cond := some uptoSmall }

/-- 'laws.FnOverloads', WHERE WHAT IT READS IS OF BULK AT MOST 1048576: true; the input reads as it did. -/
def fnOverloadsUptoRow : OpenClaim := { program := "ytcmkkejcnomcdaa", sum := "d0ad9478ff3cd3f3456d13ff578941a52b4e33d5ba40387fd945f9663618f9cd", func := "loop.example/g01032/laws.FnOverloads", spec := "fnOverloads", unfollowed := true, recurses := true, apart := false, narrowed := true }
def FnOverloadsUptoSaid : Prop := fnOverloadsUptoRow.holds Try.pinned (OpenSpec.upto fnOverloadsSpec)

/-- 'laws.FnCuts', WHERE WHAT IT READS IS OF BULK AT MOST 1048576: true; the input reads as it did. -/
def fnCutsUptoRow : OpenClaim := { program := "ytcmkkejcnomcdaa", sum := "d0ad9478ff3cd3f3456d13ff578941a52b4e33d5ba40387fd945f9663618f9cd", func := "loop.example/g01032/laws.FnCuts", spec := "fnCuts", unfollowed := true, recurses := true, apart := false, narrowed := true }
def FnCutsUptoSaid : Prop := fnCutsUptoRow.holds Try.pinned (OpenSpec.upto fnCutsSpec)

/-- 'laws.FnWatched', WHERE WHAT IT READS IS OF BULK AT MOST 1048576: true; the input reads as it did. -/
def fnWatchedUptoRow : OpenClaim := { program := "ytcmkkejcnomcdaa", sum := "d0ad9478ff3cd3f3456d13ff578941a52b4e33d5ba40387fd945f9663618f9cd", func := "loop.example/g01032/laws.FnWatched", spec := "fnWatched", unfollowed := true, recurses := true, apart := false, narrowed := true }
def FnWatchedUptoSaid : Prop := fnWatchedUptoRow.holds Try.pinned (OpenSpec.upto fnWatchedSpec)

end Rows
end Go.Proofs.Ytcmkkejcnomcdaa

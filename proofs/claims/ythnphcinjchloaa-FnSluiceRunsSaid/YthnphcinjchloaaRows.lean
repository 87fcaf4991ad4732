/-
  No cell of these rows narrows 'for every input' (looked for: loops, veiled, ifaces, maps, wideKeys, modest, calm, conditions, laid).
  DERIVED. THE GIVEN ROWS OF THIS SEAT. 4 by the template 'for every input the law returns true; each argument reads behind the call as it read before'; 0 by the template 'total and deterministic' (their statements: YthnphcinjchloaaTotals.lean).
  GIVEN WITH THE SEED: the statements are not yours to turn. If you find one false, say at which input.
  Laid BY PROGRAM, IN A SANDBOX (cutbox-rows.mjs): the forced cells as the released guide's own fill.sh prints them over the translation c07e9b59ed6cabd2… (all of the seat's roots in one cut). By AI agents, Wed Nov 11 2026. No macro, syntax, notation, axiom, sorry.
-/
import Derived.Test.YthnphcinjchloaaChecked
import GoSem.Claim
import GoSem.ClaimJoined
import GoSem.ClaimMapViews
import Derived.JoinedTies
import Derived.KernelRfl
namespace Go.Proofs.Ythnphcinjchloaa
/- THE CELL 'sum', in the pinned program and in every row, IS THE sha256 OF THE DUMP (.gsa) THAT YthnphcinjchloaaProg.lean LOADS. Nothing in Lean hashes anything: it is a label: what it is worth is what the hold of that sum in a sandbox is worth. -/
noncomputable def Try.pinned : Pinned := { name := "ythnphcinjchloaa", sum := "c07e9b59ed6cabd2b36fbc2e398513b32f9bf50f1353b4d1302c161c65960907", checked := Try.checked }
namespace Rows
def none {H : Type} : Left H := { results := [], args := [] }

/-- 'laws.FnExactClosestCoalition': WHATEVER THE INPUT: true; the input reads as it did. -/
def fnExactClosestCoalitionSpec : ChangeSpec := { name := "fnExactClosestCoalition", fn := fun _ => fun
  | [d] => { results := [.lit (.bool true)], args := [d] }
  | _ => none }
def fnExactClosestCoalitionRow : OpenClaim := { program := "ythnphcinjchloaa", sum := "c07e9b59ed6cabd2b36fbc2e398513b32f9bf50f1353b4d1302c161c65960907", func := "loop.example/g01032/laws.FnExactClosestCoalition", spec := "fnExactClosestCoalition", unfollowed := true, recurses := true, apart := false }
def FnExactClosestCoalitionSaid : Prop := fnExactClosestCoalitionRow.holds Try.pinned (OpenSpec.ofChange fnExactClosestCoalitionSpec)

/-- ITS FALSE NEIGHBOUR: 'it returns false'. Refute it at one input. -/
def fnExactClosestCoalitionWrong : ChangeSpec := { name := "fnExactClosestCoalition", fn := fun _ => fun
  | [d] => { results := [.lit (.bool false)], args := [d] }
  | _ => none }
def FnExactClosestCoalitionWrongFalsely : Prop := fnExactClosestCoalitionRow.holds Try.pinned (OpenSpec.ofChange fnExactClosestCoalitionWrong)

/-- 'laws.FnSluiceRuns': WHATEVER THE INPUT: true; the input reads as it did. -/
def fnSluiceRunsSpec : ChangeSpec := { name := "fnSluiceRuns", fn := fun _ => fun
  | [d] => { results := [.lit (.bool true)], args := [d] }
  | _ => none }
def fnSluiceRunsRow : OpenClaim := { program := "ythnphcinjchloaa", sum := "c07e9b59ed6cabd2b36fbc2e398513b32f9bf50f1353b4d1302c161c65960907", func := "loop.example/g01032/laws.FnSluiceRuns", spec := "fnSluiceRuns", inPlace := ["internal/reflectlite.ValueOf", "internal/reflectlite.Swapper", "(internal/reflectlite.Value).Len"], unfollowed := true, recurses := true, apart := false }
def FnSluiceRunsSaid : Prop := fnSluiceRunsRow.holds Try.pinned (OpenSpec.ofChange fnSluiceRunsSpec)

/-- ITS FALSE NEIGHBOUR: 'it returns false'. Refute it at one input. -/
def fnSluiceRunsWrong : ChangeSpec := { name := "fnSluiceRuns", fn := fun _ => fun
  | [d] => { results := [.lit (.bool false)], args := [d] }
  | _ => none }
def FnSluiceRunsWrongFalsely : Prop := fnSluiceRunsRow.holds Try.pinned (OpenSpec.ofChange fnSluiceRunsWrong)

/-- 'laws.FnShares': WHATEVER THE INPUT: true; the input reads as it did. -/
def fnSharesSpec : ChangeSpec := { name := "fnShares", fn := fun _ => fun
  | [d] => { results := [.lit (.bool true)], args := [d] }
  | _ => none }
def fnSharesRow : OpenClaim := { program := "ythnphcinjchloaa", sum := "c07e9b59ed6cabd2b36fbc2e398513b32f9bf50f1353b4d1302c161c65960907", func := "loop.example/g01032/laws.FnShares", spec := "fnShares", inPlace := ["internal/reflectlite.ValueOf", "internal/reflectlite.Swapper", "(internal/reflectlite.Value).Len"], unfollowed := true, recurses := true, apart := false }
def FnSharesSaid : Prop := fnSharesRow.holds Try.pinned (OpenSpec.ofChange fnSharesSpec)

/-- ITS FALSE NEIGHBOUR: 'it returns false'. Refute it at one input. -/
def fnSharesWrong : ChangeSpec := { name := "fnShares", fn := fun _ => fun
  | [d] => { results := [.lit (.bool false)], args := [d] }
  | _ => none }
def FnSharesWrongFalsely : Prop := fnSharesRow.holds Try.pinned (OpenSpec.ofChange fnSharesWrong)

/-- 'laws.FnDuties': WHATEVER THE INPUT: true; the input reads as it did. -/
def fnDutiesSpec : ChangeSpec := { name := "fnDuties", fn := fun _ => fun
  | [d] => { results := [.lit (.bool true)], args := [d] }
  | _ => none }
def fnDutiesRow : OpenClaim := { program := "ythnphcinjchloaa", sum := "c07e9b59ed6cabd2b36fbc2e398513b32f9bf50f1353b4d1302c161c65960907", func := "loop.example/g01032/laws.FnDuties", spec := "fnDuties", inPlace := ["internal/reflectlite.ValueOf", "internal/reflectlite.Swapper", "(internal/reflectlite.Value).Len"], unfollowed := true, recurses := true, apart := false }
def FnDutiesSaid : Prop := fnDutiesRow.holds Try.pinned (OpenSpec.ofChange fnDutiesSpec)

/-- ITS FALSE NEIGHBOUR: 'it returns false'. Refute it at one input. -/
def fnDutiesWrong : ChangeSpec := { name := "fnDuties", fn := fun _ => fun
  | [d] => { results := [.lit (.bool false)], args := [d] }
  | _ => none }
def FnDutiesWrongFalsely : Prop := fnDutiesRow.holds Try.pinned (OpenSpec.ofChange fnDutiesWrong)

/- THE SECOND FORM. 'bulk': how many values and letters a reading holds, each counted each time it is reached (what is shared counts as often as it is met; a slice's spare places count too). A statement '..UptoSaid' is the law's where the arguments, and the package variables that the reading takes, are together of bulk at most 1048576: NARROWER than '..Said'. Prove '..Said' where nothing that the law and all that it calls make is longer than what came in: it says more and counts as full. Else prove '..UptoSaid'. A law counts once. -/
mutual
def uptoBulk {H : Type} : DataW H → Nat
  | .lit (.string bytes) => bytes.length + 1
  | .lit _ => 1
  | .nil => 1
  | .ptr d => uptoBulk d + 1
  | .slice elems spare => uptoBulkAll elems + uptoBulkAll spare + 1
  | .agg parts => uptoBulkAll parts + 1
  | .iface _ d => uptoBulk d + 1
  | .map entries => uptoBulkEntries entries + 1
  | .held _ => 1
def uptoBulkAll {H : Type} : List (DataW H) → Nat
  | [] => 0
  | d :: r => uptoBulk d + uptoBulkAll r
def uptoBulkEntries {H : Type} : List (Lit × DataW H) → Nat
  | [] => 0
  | x :: r => uptoBulkEntry x + uptoBulkEntries r
def uptoBulkEntry {H : Type} : Lit × DataW H → Nat
  | (.string bytes, d) => bytes.length + uptoBulk d + 1
  | (_, d) => uptoBulk d + 1
 end
def uptoSmall : (H : Type) → List (DataW H) → Bool := fun _ ds => decide (uptoBulkAll ds ≤ 1048576)
def OpenSpec.upto (s : _root_.Go.ChangeSpec) : _root_.Go.OpenSpec := { _root_.Go.OpenSpec.ofChange s with cond := some uptoSmall }

/-- 'laws.FnExactClosestCoalition', WHERE WHAT IT READS IS OF BULK AT MOST 1048576: true; the input reads as it did. -/
def fnExactClosestCoalitionUptoRow : OpenClaim := { program := "ythnphcinjchloaa", sum := "c07e9b59ed6cabd2b36fbc2e398513b32f9bf50f1353b4d1302c161c65960907", func := "loop.example/g01032/laws.FnExactClosestCoalition", spec := "fnExactClosestCoalition", unfollowed := true, recurses := true, apart := false, narrowed := true }
def FnExactClosestCoalitionUptoSaid : Prop := fnExactClosestCoalitionUptoRow.holds Try.pinned (OpenSpec.upto fnExactClosestCoalitionSpec)

/-- 'laws.FnSluiceRuns', WHERE WHAT IT READS IS OF BULK AT MOST 1048576: true; the input reads as it did. -/
def fnSluiceRunsUptoRow : OpenClaim := { program := "ythnphcinjchloaa", sum := "c07e9b59ed6cabd2b36fbc2e398513b32f9bf50f1353b4d1302c161c65960907", func := "loop.example/g01032/laws.FnSluiceRuns", spec := "fnSluiceRuns", inPlace := ["internal/reflectlite.ValueOf", "internal/reflectlite.Swapper", "(internal/reflectlite.Value).Len"], unfollowed := true, recurses := true, apart := false, narrowed := true }
def FnSluiceRunsUptoSaid : Prop := fnSluiceRunsUptoRow.holds Try.pinned (OpenSpec.upto fnSluiceRunsSpec)

/-- 'laws.FnShares', WHERE WHAT IT READS IS OF BULK AT MOST 1048576: true; the input reads as it did. -/
def fnSharesUptoRow : OpenClaim := { program := "ythnphcinjchloaa", sum := "c07e9b59ed6cabd2b36fbc2e398513b32f9bf50f1353b4d1302c161c65960907", func := "loop.example/g01032/laws.FnShares", spec := "fnShares", inPlace := ["internal/reflectlite.ValueOf", "internal/reflectlite.Swapper", "(internal/reflectlite.Value).Len"], unfollowed := true, recurses := true, apart := false, narrowed := true }
def FnSharesUptoSaid : Prop := fnSharesUptoRow.holds Try.pinned (OpenSpec.upto fnSharesSpec)

/-- 'laws.FnDuties', WHERE WHAT IT READS IS OF BULK AT MOST 1048576: true; the input reads as it did. -/
def fnDutiesUptoRow : OpenClaim := { program := "ythnphcinjchloaa", sum := "c07e9b59ed6cabd2b36fbc2e398513b32f9bf50f1353b4d1302c161c65960907", func := "loop.example/g01032/laws.FnDuties", spec := "fnDuties", inPlace := ["internal/reflectlite.ValueOf", "internal/reflectlite.Swapper", "(internal/reflectlite.Value).Len"], unfollowed := true, recurses := true, apart := false, narrowed := true }
def FnDutiesUptoSaid : Prop := fnDutiesUptoRow.holds Try.pinned (OpenSpec.upto fnDutiesSpec)

end Rows
end Go.Proofs.Ythnphcinjchloaa

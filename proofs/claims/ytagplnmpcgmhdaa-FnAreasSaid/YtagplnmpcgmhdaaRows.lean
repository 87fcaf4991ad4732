/-
  No cell of these rows narrows 'for every input' (looked for: loops, veiled, ifaces, maps, wideKeys, modest, calm, conditions, laid).
  DERIVED. THE GIVEN ROWS OF THIS SEAT. 7 by the template 'for every input the law returns true; each argument reads behind the call as it read before'; 0 by the template 'total and deterministic' (their statements: YtagplnmpcgmhdaaTotals.lean).
  GIVEN WITH THE SEED: the statements are not yours to turn. If you find one false, say at which input.
  Laid BY PROGRAM, IN A SANDBOX (cutbox-rows.mjs): the forced cells as the released guide's own fill.sh prints them over the translation 98f5eff03134aab0… (all of the seat's roots in one cut). By AI agents, Wed Nov 11 2026. No macro, syntax, notation, axiom, sorry.
-/
import Derived.Test.YtagplnmpcgmhdaaChecked
import GoSem.Claim
import GoSem.ClaimJoined
import GoSem.ClaimMapViews
import Derived.JoinedTies
import Derived.KernelRfl
namespace Go.Proofs.Ytagplnmpcgmhdaa
/- THE CELL 'sum', in the pinned program and in every row, IS THE sha256 OF THE DUMP (.gsa) THAT YtagplnmpcgmhdaaProg.lean LOADS. Nothing in Lean hashes anything: it is a label: what it is worth is what the hold of that sum in a sandbox is worth. -/
noncomputable def Try.pinned : Pinned := { name := "ytagplnmpcgmhdaa", sum := "98f5eff03134aab058813666d8bf92f35ea8f198c1f06f5e14b99e836491eefe", checked := Try.checked }
namespace Rows
def none {H : Type} : Left H := { results := [], args := [] }

/-- 'laws.FnExactClosestCoalition': WHATEVER THE INPUT: true; the input reads as it did. -/
def fnExactClosestCoalitionSpec : ChangeSpec := { name := "fnExactClosestCoalition", fn := fun _ => fun
  | [d] => { results := [.lit (.bool true)], args := [d] }
  | _ => none }
def fnExactClosestCoalitionRow : OpenClaim := { program := "ytagplnmpcgmhdaa", sum := "98f5eff03134aab058813666d8bf92f35ea8f198c1f06f5e14b99e836491eefe", func := "loop.example/g01032/laws.FnExactClosestCoalition", spec := "fnExactClosestCoalition", unfollowed := true, recurses := true, apart := false }
def FnExactClosestCoalitionSaid : Prop := fnExactClosestCoalitionRow.holds Try.pinned (OpenSpec.ofChange fnExactClosestCoalitionSpec)

/-- ITS FALSE NEIGHBOUR: 'it returns false'. Refute it at one input. -/
def fnExactClosestCoalitionWrong : ChangeSpec := { name := "fnExactClosestCoalition", fn := fun _ => fun
  | [d] => { results := [.lit (.bool false)], args := [d] }
  | _ => none }
def FnExactClosestCoalitionWrongFalsely : Prop := fnExactClosestCoalitionRow.holds Try.pinned (OpenSpec.ofChange fnExactClosestCoalitionWrong)

/-- 'laws.FnExactCheapestAward': WHATEVER THE INPUT: true; the input reads as it did. -/
def fnExactCheapestAwardSpec : ChangeSpec := { name := "fnExactCheapestAward", fn := fun _ => fun
  | [d] => { results := [.lit (.bool true)], args := [d] }
  | _ => none }
def fnExactCheapestAwardRow : OpenClaim := { program := "ytagplnmpcgmhdaa", sum := "98f5eff03134aab058813666d8bf92f35ea8f198c1f06f5e14b99e836491eefe", func := "loop.example/g01032/laws.FnExactCheapestAward", spec := "fnExactCheapestAward", unfollowed := true, recurses := true, apart := false }
def FnExactCheapestAwardSaid : Prop := fnExactCheapestAwardRow.holds Try.pinned (OpenSpec.ofChange fnExactCheapestAwardSpec)

/-- ITS FALSE NEIGHBOUR: 'it returns false'. Refute it at one input. -/
def fnExactCheapestAwardWrong : ChangeSpec := { name := "fnExactCheapestAward", fn := fun _ => fun
  | [d] => { results := [.lit (.bool false)], args := [d] }
  | _ => none }
def FnExactCheapestAwardWrongFalsely : Prop := fnExactCheapestAwardRow.holds Try.pinned (OpenSpec.ofChange fnExactCheapestAwardWrong)

/-- 'laws.FnDitchFlows': WHATEVER THE INPUT: true; the input reads as it did. -/
def fnDitchFlowsSpec : ChangeSpec := { name := "fnDitchFlows", fn := fun _ => fun
  | [d1, d2] => { results := [.lit (.bool true)], args := [d1, d2] }
  | _ => none }
def fnDitchFlowsRow : OpenClaim := { program := "ytagplnmpcgmhdaa", sum := "98f5eff03134aab058813666d8bf92f35ea8f198c1f06f5e14b99e836491eefe", func := "loop.example/g01032/laws.FnDitchFlows", spec := "fnDitchFlows", unfollowed := true, recurses := true, apart := false }
def FnDitchFlowsSaid : Prop := fnDitchFlowsRow.holds Try.pinned (OpenSpec.ofChange fnDitchFlowsSpec)

/-- ITS FALSE NEIGHBOUR: 'it returns false'. Refute it at one input. -/
def fnDitchFlowsWrong : ChangeSpec := { name := "fnDitchFlows", fn := fun _ => fun
  | [d1, d2] => { results := [.lit (.bool false)], args := [d1, d2] }
  | _ => none }
def FnDitchFlowsWrongFalsely : Prop := fnDitchFlowsRow.holds Try.pinned (OpenSpec.ofChange fnDitchFlowsWrong)

/-- 'laws.FnAreas': WHATEVER THE INPUT: true; the input reads as it did. -/
def fnAreasSpec : ChangeSpec := { name := "fnAreas", fn := fun _ => fun
  | [d] => { results := [.lit (.bool true)], args := [d] }
  | _ => none }
def fnAreasRow : OpenClaim := { program := "ytagplnmpcgmhdaa", sum := "98f5eff03134aab058813666d8bf92f35ea8f198c1f06f5e14b99e836491eefe", func := "loop.example/g01032/laws.FnAreas", spec := "fnAreas", unfollowed := true, recurses := true, apart := false }
def FnAreasSaid : Prop := fnAreasRow.holds Try.pinned (OpenSpec.ofChange fnAreasSpec)

/-- ITS FALSE NEIGHBOUR: 'it returns false'. Refute it at one input. -/
def fnAreasWrong : ChangeSpec := { name := "fnAreas", fn := fun _ => fun
  | [d] => { results := [.lit (.bool false)], args := [d] }
  | _ => none }
def FnAreasWrongFalsely : Prop := fnAreasRow.holds Try.pinned (OpenSpec.ofChange fnAreasWrong)

/-- 'laws.FnOverloads': WHATEVER THE INPUT: true; the input reads as it did. -/
def fnOverloadsSpec : ChangeSpec := { name := "fnOverloads", fn := fun _ => fun
  | [d] => { results := [.lit (.bool true)], args := [d] }
  | _ => none }
def fnOverloadsRow : OpenClaim := { program := "ytagplnmpcgmhdaa", sum := "98f5eff03134aab058813666d8bf92f35ea8f198c1f06f5e14b99e836491eefe", func := "loop.example/g01032/laws.FnOverloads", spec := "fnOverloads", unfollowed := true, recurses := true, apart := false }
def FnOverloadsSaid : Prop := fnOverloadsRow.holds Try.pinned (OpenSpec.ofChange fnOverloadsSpec)

/-- ITS FALSE NEIGHBOUR: 'it returns false'. Refute it at one input. -/
def fnOverloadsWrong : ChangeSpec := { name := "fnOverloads", fn := fun _ => fun
  | [d] => { results := [.lit (.bool false)], args := [d] }
  | _ => none }
def FnOverloadsWrongFalsely : Prop := fnOverloadsRow.holds Try.pinned (OpenSpec.ofChange fnOverloadsWrong)

/-- 'laws.FnCuts': WHATEVER THE INPUT: true; the input reads as it did. -/
def fnCutsSpec : ChangeSpec := { name := "fnCuts", fn := fun _ => fun
  | [d] => { results := [.lit (.bool true)], args := [d] }
  | _ => none }
def fnCutsRow : OpenClaim := { program := "ytagplnmpcgmhdaa", sum := "98f5eff03134aab058813666d8bf92f35ea8f198c1f06f5e14b99e836491eefe", func := "loop.example/g01032/laws.FnCuts", spec := "fnCuts", unfollowed := true, recurses := true, apart := false }
def FnCutsSaid : Prop := fnCutsRow.holds Try.pinned (OpenSpec.ofChange fnCutsSpec)

/-- ITS FALSE NEIGHBOUR: 'it returns false'. Refute it at one input. -/
def fnCutsWrong : ChangeSpec := { name := "fnCuts", fn := fun _ => fun
  | [d] => { results := [.lit (.bool false)], args := [d] }
  | _ => none }
def FnCutsWrongFalsely : Prop := fnCutsRow.holds Try.pinned (OpenSpec.ofChange fnCutsWrong)

/-- 'laws.FnAwards': WHATEVER THE INPUT: true; the input reads as it did. -/
def fnAwardsSpec : ChangeSpec := { name := "fnAwards", fn := fun _ => fun
  | [d] => { results := [.lit (.bool true)], args := [d] }
  | _ => none }
def fnAwardsRow : OpenClaim := { program := "ytagplnmpcgmhdaa", sum := "98f5eff03134aab058813666d8bf92f35ea8f198c1f06f5e14b99e836491eefe", func := "loop.example/g01032/laws.FnAwards", spec := "fnAwards", unfollowed := true, recurses := true, apart := false }
def FnAwardsSaid : Prop := fnAwardsRow.holds Try.pinned (OpenSpec.ofChange fnAwardsSpec)

/-- ITS FALSE NEIGHBOUR: 'it returns false'. Refute it at one input. -/
def fnAwardsWrong : ChangeSpec := { name := "fnAwards", fn := fun _ => fun
  | [d] => { results := [.lit (.bool false)], args := [d] }
  | _ => none }
def FnAwardsWrongFalsely : Prop := fnAwardsRow.holds Try.pinned (OpenSpec.ofChange fnAwardsWrong)

/- THE SECOND FORM. 'bulk': how many values and letters a reading holds, each counted each time it is reached (what is shared counts as often as it is met; a slice's spare places count too). A statement '..UptoSaid' is the law's where the arguments, and the package variables that the reading takes, are together of bulk at most 1048576: NARROWER than '..Said'. Prove '..Said' where nothing that the law and all that it calls make is longer than what came in: it says more and counts as full. Else prove '..UptoSaid'. A law counts once. -/
mutual
def uptoBulk {H : Type} : DataW H → Nat
  | .lit (.string bytes) => bytes.length + 1
  | .lit _ => 1
  | .nil => 1
  | .ptr d => uptoBulk d + 1
  | .slice elems spare => uptoBulkAll elems + uptoBulkAll spare + 1
  | .agg parts => uptoBulkAll parts + 1
  | .iface _ d => uptoBulk d + 1
  | .map entries => uptoBulkEntries entries + 1
  | .held _ => 1
def uptoBulkAll {H : Type} : List (DataW H) → Nat
  | [] => 0
  | d :: r => uptoBulk d + uptoBulkAll r
def uptoBulkEntries {H : Type} : List (Lit × DataW H) → Nat
  | [] => 0
  | x :: r => uptoBulkEntry x + uptoBulkEntries r
def uptoBulkEntry {H : Type} : Lit × DataW H → Nat
  | (.string bytes, d) => bytes.length + uptoBulk d + 1
  | (_, d) => uptoBulk d + 1
 end
def uptoSmall : (H : Type) → List (DataW H) → Bool := fun _ ds => decide (uptoBulkAll ds ≤ 1048576)
def OpenSpec.upto (s : _root_.Go.ChangeSpec) : _root_.Go.OpenSpec := { _root_.Go.OpenSpec.ofChange s with cond := some uptoSmall }

/-- 'laws.FnExactClosestCoalition', WHERE WHAT IT READS IS OF BULK AT MOST 1048576: true; the input reads as it did. -/
def fnExactClosestCoalitionUptoRow : OpenClaim := { program := "ytagplnmpcgmhdaa", sum := "98f5eff03134aab058813666d8bf92f35ea8f198c1f06f5e14b99e836491eefe", func := "loop.example/g01032/laws.FnExactClosestCoalition", spec := "fnExactClosestCoalition", unfollowed := true, recurses := true, apart := false, narrowed := true }
def FnExactClosestCoalitionUptoSaid : Prop := fnExactClosestCoalitionUptoRow.holds Try.pinned (OpenSpec.upto fnExactClosestCoalitionSpec)

/-- 'laws.FnExactCheapestAward', WHERE WHAT IT READS IS OF BULK AT MOST 1048576: true; the input reads as it did. -/
def fnExactCheapestAwardUptoRow : OpenClaim := { program := "ytagplnmpcgmhdaa", sum := "98f5eff03134aab058813666d8bf92f35ea8f198c1f06f5e14b99e836491eefe", func := "loop.example/g01032/laws.FnExactCheapestAward", spec := "fnExactCheapestAward", unfollowed := true, recurses := true, apart := false, narrowed := true }
def FnExactCheapestAwardUptoSaid : Prop := fnExactCheapestAwardUptoRow.holds Try.pinned (OpenSpec.upto fnExactCheapestAwardSpec)

/-- 'laws.FnDitchFlows', WHERE WHAT IT READS IS OF BULK AT MOST 1048576: true; the input reads as it did. -/
def fnDitchFlowsUptoRow : OpenClaim := { program := "ytagplnmpcgmhdaa", sum := "98f5eff03134aab058813666d8bf92f35ea8f198c1f06f5e14b99e836491eefe", func := "loop.example/g01032/laws.FnDitchFlows", spec := "fnDitchFlows", unfollowed := true, recurses := true, apart := false, narrowed := true }
def FnDitchFlowsUptoSaid : Prop := fnDitchFlowsUptoRow.holds Try.pinned (OpenSpec.upto fnDitchFlowsSpec)

/-- 'laws.FnAreas', WHERE WHAT IT READS IS OF BULK AT MOST 1048576: true; the input reads as it did. -/
def fnAreasUptoRow : OpenClaim := { program := "ytagplnmpcgmhdaa", sum := "98f5eff03134aab058813666d8bf92f35ea8f198c1f06f5e14b99e836491eefe", func := "loop.example/g01032/laws.FnAreas", spec := "fnAreas", unfollowed := true, recurses := true, apart := false, narrowed := true }
def FnAreasUptoSaid : Prop := fnAreasUptoRow.holds Try.pinned (OpenSpec.upto fnAreasSpec)

/-- 'laws.FnOverloads', WHERE WHAT IT READS IS OF BULK AT MOST 1048576: true; the input reads as it did. -/
def fnOverloadsUptoRow : OpenClaim := { program := "ytagplnmpcgmhdaa", sum := "98f5eff03134aab058813666d8bf92f35ea8f198c1f06f5e14b99e836491eefe", func := "loop.example/g01032/laws.FnOverloads", spec := "fnOverloads", unfollowed := true, recurses := true, apart := false, narrowed := true }
def FnOverloadsUptoSaid : Prop := fnOverloadsUptoRow.holds Try.pinned (OpenSpec.upto fnOverloadsSpec)

/-- 'laws.FnCuts', WHERE WHAT IT READS IS OF BULK AT MOST 1048576: true; the input reads as it did. -/
def fnCutsUptoRow : OpenClaim := { program := "ytagplnmpcgmhdaa", sum := "98f5eff03134aab058813666d8bf92f35ea8f198c1f06f5e14b99e836491eefe", func := "loop.example/g01032/laws.FnCuts", spec := "fnCuts", unfollowed := true, recurses := true, apart := false, narrowed := true }
def FnCutsUptoSaid : Prop := fnCutsUptoRow.holds Try.pinned (OpenSpec.upto fnCutsSpec)

/-- 'laws.FnAwards', WHERE WHAT IT READS IS OF BULK AT MOST 1048576: true; the input reads as it did. -/
def fnAwardsUptoRow : OpenClaim := { program := "ytagplnmpcgmhdaa", sum := "98f5eff03134aab058813666d8bf92f35ea8f198c1f06f5e14b99e836491eefe", func := "loop.example/g01032/laws.FnAwards", spec := "fnAwards", unfollowed := true, recurses := true, apart := false, narrowed := true }
def FnAwardsUptoSaid : Prop := fnAwardsUptoRow.holds Try.pinned (OpenSpec.upto fnAwardsSpec)

end Rows
end Go.Proofs.Ytagplnmpcgmhdaa

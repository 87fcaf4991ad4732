/-
  No cell of these rows narrows 'for every input' (looked for: loops, veiled, ifaces, maps, wideKeys, modest, calm, conditions, laid).
  DERIVED. THE GIVEN ROWS OF THIS SEAT. 6 by the template 'for every input the law returns true; each argument reads behind the call as it read before'; 0 by the template 'total and deterministic' (their statements: YtkgfpephkinocaaTotals.lean).
  GIVEN WITH THE SEED: the statements are not yours to turn. If you find one false, say at which input.
  Laid BY PROGRAM, IN A SANDBOX (cutbox-rows.mjs): the forced cells as the released guide's own fill.sh prints them over the translation bdd09b53598ce5a3… (all of the seat's roots in one cut). By AI agents, Wed Nov 11 2026. No macro, syntax, notation, axiom, sorry.
-/
import Derived.Test.YtkgfpephkinocaaChecked
import GoSem.Claim
import GoSem.ClaimJoined
import GoSem.ClaimMapViews
import Derived.JoinedTies
import Derived.KernelRfl
namespace Go.Proofs.Ytkgfpephkinocaa
/- THE CELL 'sum', in the pinned program and in every row, IS THE sha256 OF THE DUMP (.gsa) THAT YtkgfpephkinocaaProg.lean LOADS. Nothing in Lean hashes anything: it is a label: what it is worth is what the hold of that sum in a sandbox is worth. -/
noncomputable def Try.pinned : Pinned := { name := "ytkgfpephkinocaa", sum := "bdd09b53598ce5a3c1cc44ce93131a0c5cc465c2d1057999c43010e763a8cea1", checked := Try.checked }
namespace Rows
def none {H : Type} : Left H := { results := [], args := [] }

/-- 'laws.FnCoalitions': WHATEVER THE INPUT: true; the input reads as it did. -/
def fnCoalitionsSpec : ChangeSpec := { name := "fnCoalitions", fn := fun _ => fun
  | [d1, d2] => { results := [.lit (.bool true)], args := [d1, d2] }
  | _ => none }
def fnCoalitionsRow : OpenClaim := { program := "ytkgfpephkinocaa", sum := "bdd09b53598ce5a3c1cc44ce93131a0c5cc465c2d1057999c43010e763a8cea1", func := "loop.example/g01032/laws.FnCoalitions", spec := "fnCoalitions", unfollowed := true, recurses := true, apart := false }
def FnCoalitionsSaid : Prop := fnCoalitionsRow.holds Try.pinned (OpenSpec.ofChange fnCoalitionsSpec)

/-- ITS FALSE NEIGHBOUR: 'it returns false'. Refute it at one input. -/
def fnCoalitionsWrong : ChangeSpec := { name := "fnCoalitions", fn := fun _ => fun
  | [d1, d2] => { results := [.lit (.bool false)], args := [d1, d2] }
  | _ => none }
def FnCoalitionsWrongFalsely : Prop := fnCoalitionsRow.holds Try.pinned (OpenSpec.ofChange fnCoalitionsWrong)

/-- 'laws.FnExactPlaceBid': WHATEVER THE INPUT: true; the input reads as it did. -/
def fnExactPlaceBidSpec : ChangeSpec := { name := "fnExactPlaceBid", fn := fun _ => fun
  | [d1, d2] => { results := [.lit (.bool true)], args := [d1, d2] }
  | _ => none }
def fnExactPlaceBidRow : OpenClaim := { program := "ytkgfpephkinocaa", sum := "bdd09b53598ce5a3c1cc44ce93131a0c5cc465c2d1057999c43010e763a8cea1", func := "loop.example/g01032/laws.FnExactPlaceBid", spec := "fnExactPlaceBid", unfollowed := true, recurses := true, apart := false }
def FnExactPlaceBidSaid : Prop := fnExactPlaceBidRow.holds Try.pinned (OpenSpec.ofChange fnExactPlaceBidSpec)

/-- ITS FALSE NEIGHBOUR: 'it returns false'. Refute it at one input. -/
def fnExactPlaceBidWrong : ChangeSpec := { name := "fnExactPlaceBid", fn := fun _ => fun
  | [d1, d2] => { results := [.lit (.bool false)], args := [d1, d2] }
  | _ => none }
def FnExactPlaceBidWrongFalsely : Prop := fnExactPlaceBidRow.holds Try.pinned (OpenSpec.ofChange fnExactPlaceBidWrong)

/-- 'laws.FnExactLevelReached': WHATEVER THE INPUT: true; the input reads as it did. -/
def fnExactLevelReachedSpec : ChangeSpec := { name := "fnExactLevelReached", fn := fun _ => fun
  | [d1, d2, d3] => { results := [.lit (.bool true)], args := [d1, d2, d3] }
  | _ => none }
def fnExactLevelReachedRow : OpenClaim := { program := "ytkgfpephkinocaa", sum := "bdd09b53598ce5a3c1cc44ce93131a0c5cc465c2d1057999c43010e763a8cea1", func := "loop.example/g01032/laws.FnExactLevelReached", spec := "fnExactLevelReached", unfollowed := true, recurses := true, apart := false }
def FnExactLevelReachedSaid : Prop := fnExactLevelReachedRow.holds Try.pinned (OpenSpec.ofChange fnExactLevelReachedSpec)

/-- ITS FALSE NEIGHBOUR: 'it returns false'. Refute it at one input. -/
def fnExactLevelReachedWrong : ChangeSpec := { name := "fnExactLevelReached", fn := fun _ => fun
  | [d1, d2, d3] => { results := [.lit (.bool false)], args := [d1, d2, d3] }
  | _ => none }
def FnExactLevelReachedWrongFalsely : Prop := fnExactLevelReachedRow.holds Try.pinned (OpenSpec.ofChange fnExactLevelReachedWrong)

/-- 'laws.FnExactCheapestAward': WHATEVER THE INPUT: true; the input reads as it did. -/
def fnExactCheapestAwardSpec : ChangeSpec := { name := "fnExactCheapestAward", fn := fun _ => fun
  | [d] => { results := [.lit (.bool true)], args := [d] }
  | _ => none }
def fnExactCheapestAwardRow : OpenClaim := { program := "ytkgfpephkinocaa", sum := "bdd09b53598ce5a3c1cc44ce93131a0c5cc465c2d1057999c43010e763a8cea1", func := "loop.example/g01032/laws.FnExactCheapestAward", spec := "fnExactCheapestAward", unfollowed := true, recurses := true, apart := false }
def FnExactCheapestAwardSaid : Prop := fnExactCheapestAwardRow.holds Try.pinned (OpenSpec.ofChange fnExactCheapestAwardSpec)

/-- ITS FALSE NEIGHBOUR: 'it returns false'. Refute it at one input. -/
def fnExactCheapestAwardWrong : ChangeSpec := { name := "fnExactCheapestAward", fn := fun _ => fun
  | [d] => { results := [.lit (.bool false)], args := [d] }
  | _ => none }
def FnExactCheapestAwardWrongFalsely : Prop := fnExactCheapestAwardRow.holds Try.pinned (OpenSpec.ofChange fnExactCheapestAwardWrong)

/-- 'laws.FnExactAreDisjointWays': WHATEVER THE INPUT: true; the input reads as it did. -/
def fnExactAreDisjointWaysSpec : ChangeSpec := { name := "fnExactAreDisjointWays", fn := fun _ => fun
  | [d1, d2, d3, d4, d5] => { results := [.lit (.bool true)], args := [d1, d2, d3, d4, d5] }
  | _ => none }
def fnExactAreDisjointWaysRow : OpenClaim := { program := "ytkgfpephkinocaa", sum := "bdd09b53598ce5a3c1cc44ce93131a0c5cc465c2d1057999c43010e763a8cea1", func := "loop.example/g01032/laws.FnExactAreDisjointWays", spec := "fnExactAreDisjointWays", unfollowed := true, recurses := true, apart := false }
def FnExactAreDisjointWaysSaid : Prop := fnExactAreDisjointWaysRow.holds Try.pinned (OpenSpec.ofChange fnExactAreDisjointWaysSpec)

/-- ITS FALSE NEIGHBOUR: 'it returns false'. Refute it at one input. -/
def fnExactAreDisjointWaysWrong : ChangeSpec := { name := "fnExactAreDisjointWays", fn := fun _ => fun
  | [d1, d2, d3, d4, d5] => { results := [.lit (.bool false)], args := [d1, d2, d3, d4, d5] }
  | _ => none }
def FnExactAreDisjointWaysWrongFalsely : Prop := fnExactAreDisjointWaysRow.holds Try.pinned (OpenSpec.ofChange fnExactAreDisjointWaysWrong)

/-- 'laws.FnAwards': WHATEVER THE INPUT: true; the input reads as it did. -/
def fnAwardsSpec : ChangeSpec := { name := "fnAwards", fn := fun _ => fun
  | [d] => { results := [.lit (.bool true)], args := [d] }
  | _ => none }
def fnAwardsRow : OpenClaim := { program := "ytkgfpephkinocaa", sum := "bdd09b53598ce5a3c1cc44ce93131a0c5cc465c2d1057999c43010e763a8cea1", func := "loop.example/g01032/laws.FnAwards", spec := "fnAwards", unfollowed := true, recurses := true, apart := false }
def FnAwardsSaid : Prop := fnAwardsRow.holds Try.pinned (OpenSpec.ofChange fnAwardsSpec)

/-- ITS FALSE NEIGHBOUR: 'it returns false'. Refute it at one input. -/
def fnAwardsWrong : ChangeSpec := { name := "fnAwards", fn := fun _ => fun
  | [d] => { results := [.lit (.bool false)], args := [d] }
  | _ => none }
def FnAwardsWrongFalsely : Prop := fnAwardsRow.holds Try.pinned (OpenSpec.ofChange fnAwardsWrong)

/- THE SECOND FORM. 'bulk': how many values and letters a reading holds, each counted each time it is reached (what is shared counts as often as it is met; a slice's spare places count too). A statement '..UptoSaid' is the law's where the arguments, and the package variables that the reading takes, are together of bulk at most 1048576: NARROWER than '..Said'. Prove '..Said' where nothing that the law and all that it calls make is longer than what came in: it says more and counts as full. Else prove '..UptoSaid'. A law counts once. -/
mutual
def uptoBulk {H : Type} : DataW H → Nat
  | .lit (.string bytes) => bytes.length + 1
  | .lit _ => 1
  | .nil => 1
  | .ptr d => uptoBulk d + 1
  | .slice elems spare => uptoBulkAll elems + uptoBulkAll spare + 1
  | .agg parts => uptoBulkAll parts + 1
  | .iface _ d => uptoBulk d + 1
  | .map entries => uptoBulkEntries entries + 1
  | .held _ => 1
def uptoBulkAll {H : Type} : List (DataW H) → Nat
  | [] => 0
  | d :: r => uptoBulk d + uptoBulkAll r
def uptoBulkEntries {H : Type} : List (Lit × DataW H) → Nat
  | [] => 0
  | x :: r => uptoBulkEntry x + uptoBulkEntries r
def uptoBulkEntry {H : Type} : Lit × DataW H → Nat
  | (.string bytes, d) => bytes.length + uptoBulk d + 1
  | (_, d) => uptoBulk d + 1
 end
def uptoSmall : (H : Type) → List (DataW H) → Bool := fun _ ds => decide (uptoBulkAll ds ≤ 1048576)
def OpenSpec.upto (s : _root_.Go.ChangeSpec) : _root_.Go.OpenSpec := { _root_.Go.OpenSpec.ofChange s with cond := some uptoSmall }

/-- 'laws.FnCoalitions', WHERE WHAT IT READS IS OF BULK AT MOST 1048576: true; the input reads as it did. -/
def fnCoalitionsUptoRow : OpenClaim := { program := "ytkgfpephkinocaa", sum := "bdd09b53598ce5a3c1cc44ce93131a0c5cc465c2d1057999c43010e763a8cea1", func := "loop.example/g01032/laws.FnCoalitions", spec := "fnCoalitions", unfollowed := true, recurses := true, apart := false, narrowed := true }
def FnCoalitionsUptoSaid : Prop := fnCoalitionsUptoRow.holds Try.pinned (OpenSpec.upto fnCoalitionsSpec)

/-- 'laws.FnExactPlaceBid', WHERE WHAT IT READS IS OF BULK AT MOST 1048576: true; the input reads as it did. -/
def fnExactPlaceBidUptoRow : OpenClaim := { program := "ytkgfpephkinocaa", sum := "bdd09b53598ce5a3c1cc44ce93131a0c5cc465c2d1057999c43010e763a8cea1", func := "loop.example/g01032/laws.FnExactPlaceBid", spec := "fnExactPlaceBid", unfollowed := true, recurses := true, apart := false, narrowed := true }
def FnExactPlaceBidUptoSaid : Prop := fnExactPlaceBidUptoRow.holds Try.pinned (OpenSpec.upto fnExactPlaceBidSpec)

/-- 'laws.FnExactLevelReached', WHERE WHAT IT READS IS OF BULK AT MOST 1048576: true; the input reads as it did. -/
def fnExactLevelReachedUptoRow : OpenClaim := { program := "ytkgfpephkinocaa", sum := "bdd09b53598ce5a3c1cc44ce93131a0c5cc465c2d1057999c43010e763a8cea1", func := "loop.example/g01032/laws.FnExactLevelReached", spec := "fnExactLevelReached", unfollowed := true, recurses := true, apart := false, narrowed := true }
def FnExactLevelReachedUptoSaid : Prop := fnExactLevelReachedUptoRow.holds Try.pinned (OpenSpec.upto fnExactLevelReachedSpec)

/-- 'laws.FnExactCheapestAward', WHERE WHAT IT READS IS OF BULK AT MOST 1048576: true; the input reads as it did. -/
def fnExactCheapestAwardUptoRow : OpenClaim := { program := "ytkgfpephkinocaa", sum := "bdd09b53598ce5a3c1cc44ce93131a0c5cc465c2d1057999c43010e763a8cea1", func := "loop.example/g01032/laws.FnExactCheapestAward", spec := "fnExactCheapestAward", unfollowed := true, recurses := true, apart := false, narrowed := true }
def FnExactCheapestAwardUptoSaid : Prop := fnExactCheapestAwardUptoRow.holds Try.pinned (OpenSpec.upto fnExactCheapestAwardSpec)

/-- 'laws.FnExactAreDisjointWays', WHERE WHAT IT READS IS OF BULK AT MOST 1048576: true; the input reads as it did. -/
def fnExactAreDisjointWaysUptoRow : OpenClaim := { program := "ytkgfpephkinocaa", sum := "bdd09b53598ce5a3c1cc44ce93131a0c5cc465c2d1057999c43010e763a8cea1", func := "loop.example/g01032/laws.FnExactAreDisjointWays", spec := "fnExactAreDisjointWays", unfollowed := true, recurses := true, apart := false, narrowed := true }
def FnExactAreDisjointWaysUptoSaid : Prop := fnExactAreDisjointWaysUptoRow.holds Try.pinned (OpenSpec.upto fnExactAreDisjointWaysSpec)

/-- 'laws.FnAwards', WHERE WHAT IT READS IS OF BULK AT MOST 1048576: true; the input reads as it did. -/
def fnAwardsUptoRow : OpenClaim := { program := "ytkgfpephkinocaa", sum := "bdd09b53598ce5a3c1cc44ce93131a0c5cc465c2d1057999c43010e763a8cea1", func := "loop.example/g01032/laws.FnAwards", spec := "fnAwards", unfollowed := true, recurses := true, apart := false, narrowed := true }
def FnAwardsUptoSaid : Prop := fnAwardsUptoRow.holds Try.pinned (OpenSpec.upto fnAwardsSpec)

end Rows
end Go.Proofs.Ytkgfpephkinocaa

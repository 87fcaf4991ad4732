/-
  No cell of these rows narrows 'for every input' (looked for: loops, veiled, ifaces, maps, wideKeys, modest, calm, conditions, laid).
  DERIVED. THE GIVEN ROWS OF THIS SEAT. 9 by the template 'for every input the law returns true; each argument reads behind the call as it read before'; 0 by the template 'total and deterministic' (their statements: YtgkhkpmjgjdkhaaTotals.lean).
  GIVEN WITH THE SEED: the statements are not yours to turn. If you find one false, say at which input.
  Laid BY PROGRAM, IN A SANDBOX (cutbox-rows.mjs): the forced cells as the released guide's own fill.sh prints them over the translation a09714c3488e4d19… (all of the seat's roots in one cut). By AI agents, Wed Nov 11 2026. No macro, syntax, notation, axiom, sorry.
-/
import Derived.Test.YtgkhkpmjgjdkhaaChecked
import GoSem.Claim
import GoSem.ClaimJoined
import GoSem.ClaimMapViews
import Derived.JoinedTies
import Derived.KernelRfl
namespace Go.Proofs.Ytgkhkpmjgjdkhaa
/- THE CELL 'sum', in the pinned program and in every row, IS THE sha256 OF THE DUMP (.gsa) THAT YtgkhkpmjgjdkhaaProg.lean LOADS. Nothing in Lean hashes anything: it is a label: what it is worth is what the hold of that sum in a sandbox is worth. -/
noncomputable def Try.pinned : Pinned := { name := "ytgkhkpmjgjdkhaa", sum := "a09714c3488e4d19698ad744b7fad20fdbeb41ea986cb52daf3dfeb15b62745c", checked := Try.checked }
namespace Rows
def none {H : Type} : Left H := { results := [], args := [] }

/-- 'laws.FnExactValidVotes': WHATEVER THE INPUT: true; the input reads as it did. -/
def fnExactValidVotesSpec : ChangeSpec := { name := "fnExactValidVotes", fn := fun _ => fun
  | [d] => { results := [.lit (.bool true)], args := [d] }
  | _ => none }
def fnExactValidVotesRow : OpenClaim := { program := "ytgkhkpmjgjdkhaa", sum := "a09714c3488e4d19698ad744b7fad20fdbeb41ea986cb52daf3dfeb15b62745c", func := "loop.example/g01032/laws.FnExactValidVotes", spec := "fnExactValidVotes", unfollowed := true, recurses := true, apart := false }
def FnExactValidVotesSaid : Prop := fnExactValidVotesRow.holds Try.pinned (OpenSpec.ofChange fnExactValidVotesSpec)

/-- ITS FALSE NEIGHBOUR: 'it returns false'. Refute it at one input. -/
def fnExactValidVotesWrong : ChangeSpec := { name := "fnExactValidVotes", fn := fun _ => fun
  | [d] => { results := [.lit (.bool false)], args := [d] }
  | _ => none }
def FnExactValidVotesWrongFalsely : Prop := fnExactValidVotesRow.holds Try.pinned (OpenSpec.ofChange fnExactValidVotesWrong)

/-- 'laws.FnExactHasMajority': WHATEVER THE INPUT: true; the input reads as it did. -/
def fnExactHasMajoritySpec : ChangeSpec := { name := "fnExactHasMajority", fn := fun _ => fun
  | [d1, d2] => { results := [.lit (.bool true)], args := [d1, d2] }
  | _ => none }
def fnExactHasMajorityRow : OpenClaim := { program := "ytgkhkpmjgjdkhaa", sum := "a09714c3488e4d19698ad744b7fad20fdbeb41ea986cb52daf3dfeb15b62745c", func := "loop.example/g01032/laws.FnExactHasMajority", spec := "fnExactHasMajority", unfollowed := true, recurses := true, apart := false }
def FnExactHasMajoritySaid : Prop := fnExactHasMajorityRow.holds Try.pinned (OpenSpec.ofChange fnExactHasMajoritySpec)

/-- ITS FALSE NEIGHBOUR: 'it returns false'. Refute it at one input. -/
def fnExactHasMajorityWrong : ChangeSpec := { name := "fnExactHasMajority", fn := fun _ => fun
  | [d1, d2] => { results := [.lit (.bool false)], args := [d1, d2] }
  | _ => none }
def FnExactHasMajorityWrongFalsely : Prop := fnExactHasMajorityRow.holds Try.pinned (OpenSpec.ofChange fnExactHasMajorityWrong)

/-- 'laws.FnExactClearThreshold': WHATEVER THE INPUT: true; the input reads as it did. -/
def fnExactClearThresholdSpec : ChangeSpec := { name := "fnExactClearThreshold", fn := fun _ => fun
  | [d1, d2] => { results := [.lit (.bool true)], args := [d1, d2] }
  | _ => none }
def fnExactClearThresholdRow : OpenClaim := { program := "ytgkhkpmjgjdkhaa", sum := "a09714c3488e4d19698ad744b7fad20fdbeb41ea986cb52daf3dfeb15b62745c", func := "loop.example/g01032/laws.FnExactClearThreshold", spec := "fnExactClearThreshold", unfollowed := true, recurses := true, apart := false }
def FnExactClearThresholdSaid : Prop := fnExactClearThresholdRow.holds Try.pinned (OpenSpec.ofChange fnExactClearThresholdSpec)

/-- ITS FALSE NEIGHBOUR: 'it returns false'. Refute it at one input. -/
def fnExactClearThresholdWrong : ChangeSpec := { name := "fnExactClearThreshold", fn := fun _ => fun
  | [d1, d2] => { results := [.lit (.bool false)], args := [d1, d2] }
  | _ => none }
def FnExactClearThresholdWrongFalsely : Prop := fnExactClearThresholdRow.holds Try.pinned (OpenSpec.ofChange fnExactClearThresholdWrong)

/-- 'laws.FnExactQuotaOf': WHATEVER THE INPUT: true; the input reads as it did. -/
def fnExactQuotaOfSpec : ChangeSpec := { name := "fnExactQuotaOf", fn := fun _ => fun
  | [d1, d2] => { results := [.lit (.bool true)], args := [d1, d2] }
  | _ => none }
def fnExactQuotaOfRow : OpenClaim := { program := "ytgkhkpmjgjdkhaa", sum := "a09714c3488e4d19698ad744b7fad20fdbeb41ea986cb52daf3dfeb15b62745c", func := "loop.example/g01032/laws.FnExactQuotaOf", spec := "fnExactQuotaOf", unfollowed := true, recurses := true, apart := false }
def FnExactQuotaOfSaid : Prop := fnExactQuotaOfRow.holds Try.pinned (OpenSpec.ofChange fnExactQuotaOfSpec)

/-- ITS FALSE NEIGHBOUR: 'it returns false'. Refute it at one input. -/
def fnExactQuotaOfWrong : ChangeSpec := { name := "fnExactQuotaOf", fn := fun _ => fun
  | [d1, d2] => { results := [.lit (.bool false)], args := [d1, d2] }
  | _ => none }
def FnExactQuotaOfWrongFalsely : Prop := fnExactQuotaOfRow.holds Try.pinned (OpenSpec.ofChange fnExactQuotaOfWrong)

/-- 'laws.FnExactSwingsOf': WHATEVER THE INPUT: true; the input reads as it did. -/
def fnExactSwingsOfSpec : ChangeSpec := { name := "fnExactSwingsOf", fn := fun _ => fun
  | [d] => { results := [.lit (.bool true)], args := [d] }
  | _ => none }
def fnExactSwingsOfRow : OpenClaim := { program := "ytgkhkpmjgjdkhaa", sum := "a09714c3488e4d19698ad744b7fad20fdbeb41ea986cb52daf3dfeb15b62745c", func := "loop.example/g01032/laws.FnExactSwingsOf", spec := "fnExactSwingsOf", unfollowed := true, recurses := true, apart := false }
def FnExactSwingsOfSaid : Prop := fnExactSwingsOfRow.holds Try.pinned (OpenSpec.ofChange fnExactSwingsOfSpec)

/-- ITS FALSE NEIGHBOUR: 'it returns false'. Refute it at one input. -/
def fnExactSwingsOfWrong : ChangeSpec := { name := "fnExactSwingsOf", fn := fun _ => fun
  | [d] => { results := [.lit (.bool false)], args := [d] }
  | _ => none }
def FnExactSwingsOfWrongFalsely : Prop := fnExactSwingsOfRow.holds Try.pinned (OpenSpec.ofChange fnExactSwingsOfWrong)

/-- 'laws.FnExactClosestCoalition': WHATEVER THE INPUT: true; the input reads as it did. -/
def fnExactClosestCoalitionSpec : ChangeSpec := { name := "fnExactClosestCoalition", fn := fun _ => fun
  | [d] => { results := [.lit (.bool true)], args := [d] }
  | _ => none }
def fnExactClosestCoalitionRow : OpenClaim := { program := "ytgkhkpmjgjdkhaa", sum := "a09714c3488e4d19698ad744b7fad20fdbeb41ea986cb52daf3dfeb15b62745c", func := "loop.example/g01032/laws.FnExactClosestCoalition", spec := "fnExactClosestCoalition", unfollowed := true, recurses := true, apart := false }
def FnExactClosestCoalitionSaid : Prop := fnExactClosestCoalitionRow.holds Try.pinned (OpenSpec.ofChange fnExactClosestCoalitionSpec)

/-- ITS FALSE NEIGHBOUR: 'it returns false'. Refute it at one input. -/
def fnExactClosestCoalitionWrong : ChangeSpec := { name := "fnExactClosestCoalition", fn := fun _ => fun
  | [d] => { results := [.lit (.bool false)], args := [d] }
  | _ => none }
def FnExactClosestCoalitionWrongFalsely : Prop := fnExactClosestCoalitionRow.holds Try.pinned (OpenSpec.ofChange fnExactClosestCoalitionWrong)

/-- 'laws.FnExactMandatesByAverages': WHATEVER THE INPUT: true; the input reads as it did. -/
def fnExactMandatesByAveragesSpec : ChangeSpec := { name := "fnExactMandatesByAverages", fn := fun _ => fun
  | [d1, d2, d3] => { results := [.lit (.bool true)], args := [d1, d2, d3] }
  | _ => none }
def fnExactMandatesByAveragesRow : OpenClaim := { program := "ytgkhkpmjgjdkhaa", sum := "a09714c3488e4d19698ad744b7fad20fdbeb41ea986cb52daf3dfeb15b62745c", func := "loop.example/g01032/laws.FnExactMandatesByAverages", spec := "fnExactMandatesByAverages", unfollowed := true, recurses := true, apart := false }
def FnExactMandatesByAveragesSaid : Prop := fnExactMandatesByAveragesRow.holds Try.pinned (OpenSpec.ofChange fnExactMandatesByAveragesSpec)

/-- ITS FALSE NEIGHBOUR: 'it returns false'. Refute it at one input. -/
def fnExactMandatesByAveragesWrong : ChangeSpec := { name := "fnExactMandatesByAverages", fn := fun _ => fun
  | [d1, d2, d3] => { results := [.lit (.bool false)], args := [d1, d2, d3] }
  | _ => none }
def FnExactMandatesByAveragesWrongFalsely : Prop := fnExactMandatesByAveragesRow.holds Try.pinned (OpenSpec.ofChange fnExactMandatesByAveragesWrong)

/-- 'laws.FnExactTiedForLast': WHATEVER THE INPUT: true; the input reads as it did. -/
def fnExactTiedForLastSpec : ChangeSpec := { name := "fnExactTiedForLast", fn := fun _ => fun
  | [d1, d2, d3] => { results := [.lit (.bool true)], args := [d1, d2, d3] }
  | _ => none }
def fnExactTiedForLastRow : OpenClaim := { program := "ytgkhkpmjgjdkhaa", sum := "a09714c3488e4d19698ad744b7fad20fdbeb41ea986cb52daf3dfeb15b62745c", func := "loop.example/g01032/laws.FnExactTiedForLast", spec := "fnExactTiedForLast", unfollowed := true, recurses := true, apart := false }
def FnExactTiedForLastSaid : Prop := fnExactTiedForLastRow.holds Try.pinned (OpenSpec.ofChange fnExactTiedForLastSpec)

/-- ITS FALSE NEIGHBOUR: 'it returns false'. Refute it at one input. -/
def fnExactTiedForLastWrong : ChangeSpec := { name := "fnExactTiedForLast", fn := fun _ => fun
  | [d1, d2, d3] => { results := [.lit (.bool false)], args := [d1, d2, d3] }
  | _ => none }
def FnExactTiedForLastWrongFalsely : Prop := fnExactTiedForLastRow.holds Try.pinned (OpenSpec.ofChange fnExactTiedForLastWrong)

/-- 'laws.FnCoalitions': WHATEVER THE INPUT: true; the input reads as it did. -/
def fnCoalitionsSpec : ChangeSpec := { name := "fnCoalitions", fn := fun _ => fun
  | [d1, d2] => { results := [.lit (.bool true)], args := [d1, d2] }
  | _ => none }
def fnCoalitionsRow : OpenClaim := { program := "ytgkhkpmjgjdkhaa", sum := "a09714c3488e4d19698ad744b7fad20fdbeb41ea986cb52daf3dfeb15b62745c", func := "loop.example/g01032/laws.FnCoalitions", spec := "fnCoalitions", unfollowed := true, recurses := true, apart := false }
def FnCoalitionsSaid : Prop := fnCoalitionsRow.holds Try.pinned (OpenSpec.ofChange fnCoalitionsSpec)

/-- ITS FALSE NEIGHBOUR: 'it returns false'. Refute it at one input. -/
def fnCoalitionsWrong : ChangeSpec := { name := "fnCoalitions", fn := fun _ => fun
  | [d1, d2] => { results := [.lit (.bool false)], args := [d1, d2] }
  | _ => none }
def FnCoalitionsWrongFalsely : Prop := fnCoalitionsRow.holds Try.pinned (OpenSpec.ofChange fnCoalitionsWrong)

/- THE SECOND FORM. 'bulk': how many values and letters a reading holds, each counted each time it is reached (what is shared counts as often as it is met; a slice's spare places count too). A statement '..UptoSaid' is the law's where the arguments, and the package variables that the reading takes, are together of bulk at most 1048576: NARROWER than '..Said'. Prove '..Said' where nothing that the law and all that it calls make is longer than what came in: it says more and counts as full. Else prove '..UptoSaid'. A law counts once. -/
mutual
def uptoBulk {H : Type} : DataW H → Nat
  | .lit (.string bytes) => bytes.length + 1
  | .lit _ => 1
  | .nil => 1
  | .ptr d => uptoBulk d + 1
  | .slice elems spare => uptoBulkAll elems + uptoBulkAll spare + 1
  | .agg parts => uptoBulkAll parts + 1
  | .iface _ d => uptoBulk d + 1
  | .map entries => uptoBulkEntries entries + 1
  | .held _ => 1
def uptoBulkAll {H : Type} : List (DataW H) → Nat
  | [] => 0
  | d :: r => uptoBulk d + uptoBulkAll r
def uptoBulkEntries {H : Type} : List (Lit × DataW H) → Nat
  | [] => 0
  | x :: r => uptoBulkEntry x + uptoBulkEntries r
def uptoBulkEntry {H : Type} : Lit × DataW H → Nat
  | (.string bytes, d) => bytes.length + uptoBulk d + 1
  | (_, d) => uptoBulk d + 1
 end
def uptoSmall : (H : Type) → List (DataW H) → Bool := fun _ ds => decide (uptoBulkAll ds ≤ 1048576)
def OpenSpec.upto (s : _root_.Go.ChangeSpec) : _root_.Go.OpenSpec := { _root_.Go.OpenSpec.ofChange s with cond := some uptoSmall }

/-- 'laws.FnExactValidVotes', WHERE WHAT IT READS IS OF BULK AT MOST 1048576: true; the input reads as it did. -/
def fnExactValidVotesUptoRow : OpenClaim := { program := "ytgkhkpmjgjdkhaa", sum := "a09714c3488e4d19698ad744b7fad20fdbeb41ea986cb52daf3dfeb15b62745c", func := "loop.example/g01032/laws.FnExactValidVotes", spec := "fnExactValidVotes", unfollowed := true, recurses := true, apart := false, narrowed := true }
def FnExactValidVotesUptoSaid : Prop := fnExactValidVotesUptoRow.holds Try.pinned (OpenSpec.upto fnExactValidVotesSpec)

/-- 'laws.FnExactHasMajority', WHERE WHAT IT READS IS OF BULK AT MOST 1048576: true; the input reads as it did. -/
def fnExactHasMajorityUptoRow : OpenClaim := { program := "ytgkhkpmjgjdkhaa", sum := "a09714c3488e4d19698ad744b7fad20fdbeb41ea986cb52daf3dfeb15b62745c", func := "loop.example/g01032/laws.FnExactHasMajority", spec := "fnExactHasMajority", unfollowed := true, recurses := true, apart := false, narrowed := true }
def FnExactHasMajorityUptoSaid : Prop := fnExactHasMajorityUptoRow.holds Try.pinned (OpenSpec.upto fnExactHasMajoritySpec)

/-- 'laws.FnExactClearThreshold', WHERE WHAT IT READS IS OF BULK AT MOST 1048576: true; the input reads as it did. -/
def fnExactClearThresholdUptoRow : OpenClaim := { program := "ytgkhkpmjgjdkhaa", sum := "a09714c3488e4d19698ad744b7fad20fdbeb41ea986cb52daf3dfeb15b62745c", func := "loop.example/g01032/laws.FnExactClearThreshold", spec := "fnExactClearThreshold", unfollowed := true, recurses := true, apart := false, narrowed := true }
def FnExactClearThresholdUptoSaid : Prop := fnExactClearThresholdUptoRow.holds Try.pinned (OpenSpec.upto fnExactClearThresholdSpec)

/-- 'laws.FnExactQuotaOf', WHERE WHAT IT READS IS OF BULK AT MOST 1048576: true; the input reads as it did. -/
def fnExactQuotaOfUptoRow : OpenClaim := { program := "ytgkhkpmjgjdkhaa", sum := "a09714c3488e4d19698ad744b7fad20fdbeb41ea986cb52daf3dfeb15b62745c", func := "loop.example/g01032/laws.FnExactQuotaOf", spec := "fnExactQuotaOf", unfollowed := true, recurses := true, apart := false, narrowed := true }
def FnExactQuotaOfUptoSaid : Prop := fnExactQuotaOfUptoRow.holds Try.pinned (OpenSpec.upto fnExactQuotaOfSpec)

/-- 'laws.FnExactSwingsOf', WHERE WHAT IT READS IS OF BULK AT MOST 1048576: true; the input reads as it did. -/
def fnExactSwingsOfUptoRow : OpenClaim := { program := "ytgkhkpmjgjdkhaa", sum := "a09714c3488e4d19698ad744b7fad20fdbeb41ea986cb52daf3dfeb15b62745c", func := "loop.example/g01032/laws.FnExactSwingsOf", spec := "fnExactSwingsOf", unfollowed := true, recurses := true, apart := false, narrowed := true }
def FnExactSwingsOfUptoSaid : Prop := fnExactSwingsOfUptoRow.holds Try.pinned (OpenSpec.upto fnExactSwingsOfSpec)

/-- 'laws.FnExactClosestCoalition', WHERE WHAT IT READS IS OF BULK AT MOST 1048576: true; the input reads as it did. -/
def fnExactClosestCoalitionUptoRow : OpenClaim := { program := "ytgkhkpmjgjdkhaa", sum := "a09714c3488e4d19698ad744b7fad20fdbeb41ea986cb52daf3dfeb15b62745c", func := "loop.example/g01032/laws.FnExactClosestCoalition", spec := "fnExactClosestCoalition", unfollowed := true, recurses := true, apart := false, narrowed := true }
def FnExactClosestCoalitionUptoSaid : Prop := fnExactClosestCoalitionUptoRow.holds Try.pinned (OpenSpec.upto fnExactClosestCoalitionSpec)

/-- 'laws.FnExactMandatesByAverages', WHERE WHAT IT READS IS OF BULK AT MOST 1048576: true; the input reads as it did. -/
def fnExactMandatesByAveragesUptoRow : OpenClaim := { program := "ytgkhkpmjgjdkhaa", sum := "a09714c3488e4d19698ad744b7fad20fdbeb41ea986cb52daf3dfeb15b62745c", func := "loop.example/g01032/laws.FnExactMandatesByAverages", spec := "fnExactMandatesByAverages", unfollowed := true, recurses := true, apart := false, narrowed := true }
def FnExactMandatesByAveragesUptoSaid : Prop := fnExactMandatesByAveragesUptoRow.holds Try.pinned (OpenSpec.upto fnExactMandatesByAveragesSpec)

/-- 'laws.FnExactTiedForLast', WHERE WHAT IT READS IS OF BULK AT MOST 1048576: true; the input reads as it did. -/
def fnExactTiedForLastUptoRow : OpenClaim := { program := "ytgkhkpmjgjdkhaa", sum := "a09714c3488e4d19698ad744b7fad20fdbeb41ea986cb52daf3dfeb15b62745c", func := "loop.example/g01032/laws.FnExactTiedForLast", spec := "fnExactTiedForLast", unfollowed := true, recurses := true, apart := false, narrowed := true }
def FnExactTiedForLastUptoSaid : Prop := fnExactTiedForLastUptoRow.holds Try.pinned (OpenSpec.upto fnExactTiedForLastSpec)

/-- 'laws.FnCoalitions', WHERE WHAT IT READS IS OF BULK AT MOST 1048576: true; the input reads as it did. -/
def fnCoalitionsUptoRow : OpenClaim := { program := "ytgkhkpmjgjdkhaa", sum := "a09714c3488e4d19698ad744b7fad20fdbeb41ea986cb52daf3dfeb15b62745c", func := "loop.example/g01032/laws.FnCoalitions", spec := "fnCoalitions", unfollowed := true, recurses := true, apart := false, narrowed := true }
def FnCoalitionsUptoSaid : Prop := fnCoalitionsUptoRow.holds Try.pinned (OpenSpec.upto fnCoalitionsSpec)

end Rows
end Go.Proofs.Ytgkhkpmjgjdkhaa

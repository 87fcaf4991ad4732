/-
  DERIVED. GIVEN WITH THE SEED: THE CARDS: each row of YtkflbpojkccchaaDoorRows.lean that lists a variable, with what it lists TIED to the program's text (the seventh form; the later family's looks); each row that meets fmt, with fmt's text TOLD by the authors' own Lean function (tested against real Go, not proved from fmt's source: count such statements apart). THE CARD IS WHAT COUNTS. Prove the row's statement (the work); the ties are given (YtkflbpojkccchaaDoorTie.lean); close each card by the builder's one call (the guide's Derived/Test/ToyasCard.lean, 'card_holds'). Laid BY PROGRAM, IN A SANDBOX (cutbox-door.mjs). By AI agents, Wed Nov 11 2026. No macro, syntax, notation, axiom, sorry.
-/
import Derived.Test.YtkflbpojkccchaaDoorRows
import GoSem.ClaimSeven
namespace Go.Proofs.YtkflbpojkccchaaDoor
namespace Rows

/-- THE TIED CARD OF 'laws.FnWorkSets'. -/
def fnWorkSetsCard : Claim7 := { stood := { row := fnWorkSetsRow, standIns := [], harness := (true, "a400ead06cbc87bb201557220eed9ad5b8ff4979a36d7f18e90bc68cf23aba08"), looks := false }, kinds := [], alts := [], laidByText := true, laidKinds := [.data, .data, .data], laidTests := true, laidLooks := .later }
def FnWorkSetsCardSaid : Prop := Claim7.holds Tryd.pinned (.plain (OpenSpec.ofChange fnWorkSetsSpec)) fnWorkSetsCard

/-- THE SECOND FORM's CARD OF 'laws.FnWorkSets'. -/
def fnWorkSetsUptoCard : Claim7 := { stood := { row := fnWorkSetsUptoRow, standIns := [], harness := (true, "a400ead06cbc87bb201557220eed9ad5b8ff4979a36d7f18e90bc68cf23aba08"), looks := false }, kinds := [], alts := [], laidByText := true, laidKinds := [.data, .data, .data], laidTests := true, laidLooks := .later }
def FnWorkSetsUptoCardSaid : Prop := Claim7.holds Tryd.pinned (.plain (OpenSpec.upto fnWorkSetsSpec)) fnWorkSetsUptoCard
end Rows
end Go.Proofs.YtkflbpojkccchaaDoor

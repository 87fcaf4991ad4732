/-
  DERIVED. GIVEN WITH THE SEED: THE CARDS: each row of YtilocioajpcoiaaDoorRows.lean that lists a variable, with what it lists TIED to the program's text (the seventh form; the later family's looks); each row that meets fmt, with fmt's text TOLD by the authors' own Lean function (tested against real Go, not proved from fmt's source: count such statements apart). THE CARD IS WHAT COUNTS. Prove the row's statement (the work); the ties are given (YtilocioajpcoiaaDoorTie.lean); close each card by the builder's one call (the guide's Derived/Test/ToyasCard.lean, 'card_holds'). Laid BY PROGRAM, IN A SANDBOX (cutbox-door.mjs). By AI agents, Wed Nov 11 2026. No macro, syntax, notation, axiom, sorry.
-/
import Derived.Test.YtilocioajpcoiaaDoorRows
import GoSem.ClaimSeven
namespace Go.Proofs.YtilocioajpcoiaaDoor
namespace Rows

/-- THE TIED CARD OF 'laws.FnWorkSets'. -/
def fnWorkSetsCard : Claim7 := { stood := { row := fnWorkSetsRow, standIns := [], harness := (true, "7814fc276383106a00c5105bcb15fe66f682230a11072480c75370e2c7238b8f"), looks := true }, kinds := [], alts := [], laidByText := true, laidKinds := [.data, .data, .data], laidTests := true, laidLooks := .later }
def FnWorkSetsCardSaid : Prop := Claim7.holds Tryd.pinned (.plain (OpenSpec.ofChange fnWorkSetsSpec)) fnWorkSetsCard

/-- THE TIED CARD OF 'laws.FnWords'. -/
def fnWordsCard : Claim7 := { stood := { row := fnWordsRow, standIns := [], harness := (true, "7814fc276383106a00c5105bcb15fe66f682230a11072480c75370e2c7238b8f"), looks := true }, kinds := [], alts := [], laidByText := true, laidKinds := [.data, .data, .data, .data, .sentinel, .sentinel, .pinned], laidTests := true, laidLooks := .later }
def FnWordsCardSaid : Prop := Claim7.holds Tryd.pinned (.plain (OpenSpec.ofChange fnWordsSpec)) fnWordsCard

/-- THE SECOND FORM's CARD OF 'laws.FnWorkSets'. -/
def fnWorkSetsUptoCard : Claim7 := { stood := { row := fnWorkSetsUptoRow, standIns := [], harness := (true, "7814fc276383106a00c5105bcb15fe66f682230a11072480c75370e2c7238b8f"), looks := true }, kinds := [], alts := [], laidByText := true, laidKinds := [.data, .data, .data], laidTests := true, laidLooks := .later }
def FnWorkSetsUptoCardSaid : Prop := Claim7.holds Tryd.pinned (.plain (OpenSpec.upto fnWorkSetsSpec)) fnWorkSetsUptoCard

/-- THE SECOND FORM's CARD OF 'laws.FnWords'. -/
def fnWordsUptoCard : Claim7 := { stood := { row := fnWordsUptoRow, standIns := [], harness := (true, "7814fc276383106a00c5105bcb15fe66f682230a11072480c75370e2c7238b8f"), looks := true }, kinds := [], alts := [], laidByText := true, laidKinds := [.data, .data, .data, .data, .sentinel, .sentinel, .pinned], laidTests := true, laidLooks := .later }
def FnWordsUptoCardSaid : Prop := Claim7.holds Tryd.pinned (.plain (OpenSpec.upto fnWordsSpec)) fnWordsUptoCard
end Rows
end Go.Proofs.YtilocioajpcoiaaDoor

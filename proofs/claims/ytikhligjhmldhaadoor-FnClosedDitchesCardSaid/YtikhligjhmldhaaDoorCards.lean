/-
  DERIVED. GIVEN WITH THE SEED: THE CARDS: each row of YtikhligjhmldhaaDoorRows.lean that lists a variable, with what it lists TIED to the program's text (the seventh form; the later family's looks); each row that meets fmt, with fmt's text TOLD by the authors' own Lean function (tested against real Go, not proved from fmt's source: count such statements apart). THE CARD IS WHAT COUNTS. Prove the row's statement (the work); the ties are given (YtikhligjhmldhaaDoorTie.lean); close each card by the builder's one call (the guide's Derived/Test/ToyasCard.lean, 'card_holds'). Laid BY PROGRAM, IN A SANDBOX (cutbox-door.mjs). By AI agents, Wed Nov 11 2026. No macro, syntax, notation, axiom, sorry.
-/
import Derived.Test.YtikhligjhmldhaaDoorRows
import GoSem.ClaimSeven
namespace Go.Proofs.YtikhligjhmldhaaDoor
namespace Rows

/-- THE TIED CARD OF 'laws.FnClosedDitches'. -/
def fnClosedDitchesCard : Claim7 := { stood := { row := fnClosedDitchesRow, standIns := [], harness := (true, "e33a05930bca6a85bd7e2b098b05ae5f4cf8dd93953ee2346a85e6b50556dc79"), looks := true }, kinds := [], alts := [], laidByText := true, laidKinds := [.data, .data, .data, .sentinel, .sentinel], laidTests := true, laidLooks := .later }
def FnClosedDitchesCardSaid : Prop := Claim7.holds Tryd.pinned (.plain (OpenSpec.ofChange fnClosedDitchesSpec)) fnClosedDitchesCard

/-- THE SECOND FORM's CARD OF 'laws.FnClosedDitches'. -/
def fnClosedDitchesUptoCard : Claim7 := { stood := { row := fnClosedDitchesUptoRow, standIns := [], harness := (true, "e33a05930bca6a85bd7e2b098b05ae5f4cf8dd93953ee2346a85e6b50556dc79"), looks := true }, kinds := [], alts := [], laidByText := true, laidKinds := [.data, .data, .data, .sentinel, .sentinel], laidTests := true, laidLooks := .later }
def FnClosedDitchesUptoCardSaid : Prop := Claim7.holds Tryd.pinned (.plain (OpenSpec.upto fnClosedDitchesSpec)) fnClosedDitchesUptoCard
end Rows
end Go.Proofs.YtikhligjhmldhaaDoor

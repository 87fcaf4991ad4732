/-
  DERIVED. GIVEN WITH THE SEED: THE CARDS: each row of YtbbdfifpncjpnaaDoorRows.lean that lists a variable, with what it lists TIED to the program's text (the seventh form; the later family's looks); each row that meets fmt, with fmt's text TOLD by the authors' own Lean function (tested against real Go, not proved from fmt's source: count such statements apart). THE CARD IS WHAT COUNTS. Prove the row's statement (the work); the ties are given (YtbbdfifpncjpnaaDoorTie.lean); close each card by the builder's one call (the guide's Derived/Test/ToyasCard.lean, 'card_holds'). Laid BY PROGRAM, IN A SANDBOX (cutbox-door.mjs). By AI agents, Wed Nov 11 2026. No macro, syntax, notation, axiom, sorry.
-/
import Derived.Test.YtbbdfifpncjpnaaDoorRows
import GoSem.ClaimSeven
namespace Go.Proofs.YtbbdfifpncjpnaaDoor
namespace Rows

/-- THE TIED CARD OF 'laws.FnHandOvers'. -/
def fnHandOversCard : Claim7 := { stood := { row := fnHandOversRow, standIns := [], harness := (true, "7e3ab65e4f2dd5a6ee042a2d5d173efe8c0ad0364981a148c13fe81fed18f93d"), looks := true }, kinds := [], alts := [], laidByText := true, laidKinds := [.data, .data, .data, .sentinel, .sentinel], laidTests := true, laidLooks := .later }
def FnHandOversCardSaid : Prop := Claim7.holds Tryd.pinned (.plain (OpenSpec.ofChange fnHandOversSpec)) fnHandOversCard

/-- THE SECOND FORM's CARD OF 'laws.FnHandOvers'. -/
def fnHandOversUptoCard : Claim7 := { stood := { row := fnHandOversUptoRow, standIns := [], harness := (true, "7e3ab65e4f2dd5a6ee042a2d5d173efe8c0ad0364981a148c13fe81fed18f93d"), looks := true }, kinds := [], alts := [], laidByText := true, laidKinds := [.data, .data, .data, .sentinel, .sentinel], laidTests := true, laidLooks := .later }
def FnHandOversUptoCardSaid : Prop := Claim7.holds Tryd.pinned (.plain (OpenSpec.upto fnHandOversSpec)) fnHandOversUptoCard
end Rows
end Go.Proofs.YtbbdfifpncjpnaaDoor

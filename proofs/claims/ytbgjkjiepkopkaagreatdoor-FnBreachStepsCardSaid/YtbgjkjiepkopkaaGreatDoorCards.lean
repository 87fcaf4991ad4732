/-
  DERIVED. GIVEN WITH THE SEED: THE CARDS: each row of YtbgjkjiepkopkaaGreatDoorRows.lean that lists a variable, with what it lists TIED to the program's text (the seventh form; the later family's looks); each row that meets fmt, with fmt's text TOLD by the authors' own Lean function (tested against real Go, not proved from fmt's source: count such statements apart). THE CARD IS WHAT COUNTS. Prove the row's statement (the work); the ties are given (YtbgjkjiepkopkaaGreatDoorTie.lean); close each card by the builder's one call (the guide's Derived/Test/ToyasCard.lean, 'card_holds'). Laid BY PROGRAM, IN A SANDBOX (cutbox-door.mjs). By AI agents, Wed Nov 11 2026. No macro, syntax, notation, axiom, sorry.
-/
import Derived.Test.YtbgjkjiepkopkaaGreatDoorRows
import GoSem.ClaimSeven
namespace Go.Proofs.YtbgjkjiepkopkaaGreatDoor
namespace Rows

/-- THE TIED CARD OF 'laws.FnBreachSteps'. -/
def fnBreachStepsCard : Claim7 := { stood := { row := fnBreachStepsRow, standIns := [], harness := (true, "27d97caf6696cde6f6783bd27612c783d2f9981e35a5877684d898e1f6855253"), looks := true }, kinds := [], alts := [], laidByText := true, laidKinds := [.data, .data, .data, .data, .sentinel, .sentinel, .pinned], laidTests := true, laidLooks := .later }
def FnBreachStepsCardSaid : Prop := Claim7.holds Tryz.pinned (.plain (OpenSpec.ofChange fnBreachStepsSpec)) fnBreachStepsCard

/-- THE SECOND FORM's CARD OF 'laws.FnBreachSteps'. -/
def fnBreachStepsUptoCard : Claim7 := { stood := { row := fnBreachStepsUptoRow, standIns := [], harness := (true, "27d97caf6696cde6f6783bd27612c783d2f9981e35a5877684d898e1f6855253"), looks := true }, kinds := [], alts := [], laidByText := true, laidKinds := [.data, .data, .data, .data, .sentinel, .sentinel, .pinned], laidTests := true, laidLooks := .later }
def FnBreachStepsUptoCardSaid : Prop := Claim7.holds Tryz.pinned (.plain (OpenSpec.upto fnBreachStepsSpec)) fnBreachStepsUptoCard
end Rows
end Go.Proofs.YtbgjkjiepkopkaaGreatDoor

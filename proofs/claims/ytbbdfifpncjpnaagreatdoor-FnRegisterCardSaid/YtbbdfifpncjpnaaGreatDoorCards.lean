/-
  DERIVED. GIVEN WITH THE SEED: THE CARDS: each row of YtbbdfifpncjpnaaGreatDoorRows.lean that lists a variable, with what it lists TIED to the program's text (the seventh form; the later family's looks); each row that meets fmt, with fmt's text TOLD by the authors' own Lean function (tested against real Go, not proved from fmt's source: count such statements apart). THE CARD IS WHAT COUNTS. Prove the row's statement (the work); the ties are given (YtbbdfifpncjpnaaGreatDoorTie.lean); close each card by the builder's one call (the guide's Derived/Test/ToyasCard.lean, 'card_holds'). Laid BY PROGRAM, IN A SANDBOX (cutbox-door.mjs). By AI agents, Wed Nov 11 2026. No macro, syntax, notation, axiom, sorry.
-/
import Derived.Test.YtbbdfifpncjpnaaGreatDoorRows
import GoSem.ClaimSeven
namespace Go.Proofs.YtbbdfifpncjpnaaGreatDoor
namespace Rows

/-- THE TIED CARD OF 'laws.FnRegister'. -/
def fnRegisterCard : Claim7 := { stood := { row := fnRegisterRow, standIns := [], harness := (true, "7499d1426096c4307e3e704c5b2b0719155f4f7aa28e603c07b4ed27c24320a9"), looks := true }, kinds := [], alts := [], laidByText := true, laidKinds := [.data, .data, .data, .sentinel, .sentinel], laidTests := true, laidLooks := .later }
def FnRegisterCardSaid : Prop := Claim7.holds Tryz.pinned (.plain (OpenSpec.ofChange fnRegisterSpec)) fnRegisterCard

/-- THE TIED CARD OF 'laws.FnGuards'. -/
def fnGuardsCard : Claim7 := { stood := { row := fnGuardsRow, standIns := [], harness := (true, "7499d1426096c4307e3e704c5b2b0719155f4f7aa28e603c07b4ed27c24320a9"), looks := true }, kinds := [], alts := [], laidByText := true, laidKinds := [.data, .data, .data, .sentinel, .sentinel], laidTests := true, laidLooks := .later }
def FnGuardsCardSaid : Prop := Claim7.holds Tryz.pinned (.plain (OpenSpec.ofChange fnGuardsSpec)) fnGuardsCard

/-- THE SECOND FORM's CARD OF 'laws.FnRegister'. -/
def fnRegisterUptoCard : Claim7 := { stood := { row := fnRegisterUptoRow, standIns := [], harness := (true, "7499d1426096c4307e3e704c5b2b0719155f4f7aa28e603c07b4ed27c24320a9"), looks := true }, kinds := [], alts := [], laidByText := true, laidKinds := [.data, .data, .data, .sentinel, .sentinel], laidTests := true, laidLooks := .later }
def FnRegisterUptoCardSaid : Prop := Claim7.holds Tryz.pinned (.plain (OpenSpec.upto fnRegisterSpec)) fnRegisterUptoCard

/-- THE SECOND FORM's CARD OF 'laws.FnGuards'. -/
def fnGuardsUptoCard : Claim7 := { stood := { row := fnGuardsUptoRow, standIns := [], harness := (true, "7499d1426096c4307e3e704c5b2b0719155f4f7aa28e603c07b4ed27c24320a9"), looks := true }, kinds := [], alts := [], laidByText := true, laidKinds := [.data, .data, .data, .sentinel, .sentinel], laidTests := true, laidLooks := .later }
def FnGuardsUptoCardSaid : Prop := Claim7.holds Tryz.pinned (.plain (OpenSpec.upto fnGuardsSpec)) fnGuardsUptoCard
end Rows
end Go.Proofs.YtbbdfifpncjpnaaGreatDoor

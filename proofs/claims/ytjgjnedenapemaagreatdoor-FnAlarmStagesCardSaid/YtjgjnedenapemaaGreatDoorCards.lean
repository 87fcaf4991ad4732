/-
  DERIVED. GIVEN WITH THE SEED: THE CARDS: each row of YtjgjnedenapemaaGreatDoorRows.lean that lists a variable, with what it lists TIED to the program's text (the seventh form; the later family's looks); each row that meets fmt, with fmt's text TOLD by the authors' own Lean function (tested against real Go, not proved from fmt's source: count such statements apart). THE CARD IS WHAT COUNTS. Prove the row's statement (the work); the ties are given (YtjgjnedenapemaaGreatDoorTie.lean); close each card by the builder's one call (the guide's Derived/Test/ToyasCard.lean, 'card_holds'). Laid BY PROGRAM, IN A SANDBOX (cutbox-door.mjs). By AI agents, Wed Nov 11 2026. No macro, syntax, notation, axiom, sorry.
-/
import Derived.Test.YtjgjnedenapemaaGreatDoorRows
import GoSem.ClaimSeven
namespace Go.Proofs.YtjgjnedenapemaaGreatDoor
namespace Rows

/-- THE TIED CARD OF 'laws.FnAlarmStages'. -/
def fnAlarmStagesCard : Claim7 := { stood := { row := fnAlarmStagesRow, standIns := [], harness := (true, "a623978d0ba232e49f11997271f6ee48fdabc17889b2a15c6257dce6f14d03c6"), looks := true }, kinds := [], alts := [], laidByText := true, laidKinds := [.data, .data, .data, .data, .sentinel, .sentinel, .pinned], laidTests := true, laidLooks := .later }
def FnAlarmStagesCardSaid : Prop := Claim7.holds Tryz.pinned (.plain (OpenSpec.ofChange fnAlarmStagesSpec)) fnAlarmStagesCard

/-- THE TIED CARD OF 'laws.FnLevels'. -/
def fnLevelsCard : Claim7 := { stood := { row := fnLevelsRow, standIns := [], harness := (true, "a623978d0ba232e49f11997271f6ee48fdabc17889b2a15c6257dce6f14d03c6"), looks := true }, kinds := [], alts := [], laidByText := true, laidKinds := [.data, .data, .data, .data, .sentinel, .sentinel, .pinned], laidTests := true, laidLooks := .later }
def FnLevelsCardSaid : Prop := Claim7.holds Tryz.pinned (.plain (OpenSpec.ofChange fnLevelsSpec)) fnLevelsCard

/-- THE SECOND FORM's CARD OF 'laws.FnAlarmStages'. -/
def fnAlarmStagesUptoCard : Claim7 := { stood := { row := fnAlarmStagesUptoRow, standIns := [], harness := (true, "a623978d0ba232e49f11997271f6ee48fdabc17889b2a15c6257dce6f14d03c6"), looks := true }, kinds := [], alts := [], laidByText := true, laidKinds := [.data, .data, .data, .data, .sentinel, .sentinel, .pinned], laidTests := true, laidLooks := .later }
def FnAlarmStagesUptoCardSaid : Prop := Claim7.holds Tryz.pinned (.plain (OpenSpec.upto fnAlarmStagesSpec)) fnAlarmStagesUptoCard

/-- THE SECOND FORM's CARD OF 'laws.FnLevels'. -/
def fnLevelsUptoCard : Claim7 := { stood := { row := fnLevelsUptoRow, standIns := [], harness := (true, "a623978d0ba232e49f11997271f6ee48fdabc17889b2a15c6257dce6f14d03c6"), looks := true }, kinds := [], alts := [], laidByText := true, laidKinds := [.data, .data, .data, .data, .sentinel, .sentinel, .pinned], laidTests := true, laidLooks := .later }
def FnLevelsUptoCardSaid : Prop := Claim7.holds Tryz.pinned (.plain (OpenSpec.upto fnLevelsSpec)) fnLevelsUptoCard
end Rows
end Go.Proofs.YtjgjnedenapemaaGreatDoor

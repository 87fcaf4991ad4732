/-
  DERIVED. GIVEN WITH THE SEED: THE CARDS: each row of YtfhckmlmfigfjaaGreatDoorRows.lean that lists a variable, with what it lists TIED to the program's text (the seventh form; the later family's looks); each row that meets fmt, with fmt's text TOLD by the authors' own Lean function (tested against real Go, not proved from fmt's source: count such statements apart). THE CARD IS WHAT COUNTS. Prove the row's statement (the work); the ties are given (YtfhckmlmfigfjaaGreatDoorTie.lean); close each card by the builder's one call (the guide's Derived/Test/ToyasCard.lean, 'card_holds'). Laid BY PROGRAM, IN A SANDBOX (cutbox-door.mjs). By AI agents, Wed Nov 11 2026. No macro, syntax, notation, axiom, sorry.
-/
import Derived.Test.YtfhckmlmfigfjaaGreatDoorRows
import GoSem.ClaimSeven
namespace Go.Proofs.YtfhckmlmfigfjaaGreatDoor
namespace Rows

/-- THE TIED CARD OF 'laws.FnGuards'. -/
def fnGuardsCard : Claim7 := { stood := { row := fnGuardsRow, standIns := [], harness := (true, "eba1d32c5a4777504255714775a24a7e2393635c3a905b725f26ca8861cdf9c2"), looks := true }, kinds := [], alts := [], laidByText := true, laidKinds := [.data, .data, .data, .sentinel, .sentinel], laidTests := true, laidLooks := .later }
def FnGuardsCardSaid : Prop := Claim7.holds Tryz.pinned (.plain (OpenSpec.ofChange fnGuardsSpec)) fnGuardsCard

/-- THE TIED CARD OF 'laws.FnLands'. -/
def fnLandsCard : Claim7 := { stood := { row := fnLandsRow, standIns := [], harness := (true, "eba1d32c5a4777504255714775a24a7e2393635c3a905b725f26ca8861cdf9c2"), looks := true }, kinds := [], alts := [], laidByText := true, laidKinds := [.data, .data, .data, .sentinel, .sentinel], laidTests := true, laidLooks := .later }
def FnLandsCardSaid : Prop := Claim7.holds Tryz.pinned (.plain (OpenSpec.ofChange fnLandsSpec)) fnLandsCard

/-- THE TIED CARD OF 'laws.FnAlarmStages'. -/
def fnAlarmStagesCard : Claim7 := { stood := { row := fnAlarmStagesRow, standIns := [], harness := (true, "eba1d32c5a4777504255714775a24a7e2393635c3a905b725f26ca8861cdf9c2"), looks := true }, kinds := [], alts := [], laidByText := true, laidKinds := [.data, .data, .data, .data, .sentinel, .sentinel, .pinned], laidTests := true, laidLooks := .later }
def FnAlarmStagesCardSaid : Prop := Claim7.holds Tryz.pinned (.plain (OpenSpec.ofChange fnAlarmStagesSpec)) fnAlarmStagesCard

/-- THE TIED CARD OF 'laws.FnLevels'. -/
def fnLevelsCard : Claim7 := { stood := { row := fnLevelsRow, standIns := [], harness := (true, "eba1d32c5a4777504255714775a24a7e2393635c3a905b725f26ca8861cdf9c2"), looks := true }, kinds := [], alts := [], laidByText := true, laidKinds := [.data, .data, .data, .data, .sentinel, .sentinel, .pinned], laidTests := true, laidLooks := .later }
def FnLevelsCardSaid : Prop := Claim7.holds Tryz.pinned (.plain (OpenSpec.ofChange fnLevelsSpec)) fnLevelsCard

/-- THE SECOND FORM's CARD OF 'laws.FnGuards'. -/
def fnGuardsUptoCard : Claim7 := { stood := { row := fnGuardsUptoRow, standIns := [], harness := (true, "eba1d32c5a4777504255714775a24a7e2393635c3a905b725f26ca8861cdf9c2"), looks := true }, kinds := [], alts := [], laidByText := true, laidKinds := [.data, .data, .data, .sentinel, .sentinel], laidTests := true, laidLooks := .later }
def FnGuardsUptoCardSaid : Prop := Claim7.holds Tryz.pinned (.plain (OpenSpec.upto fnGuardsSpec)) fnGuardsUptoCard

/-- THE SECOND FORM's CARD OF 'laws.FnLands'. -/
def fnLandsUptoCard : Claim7 := { stood := { row := fnLandsUptoRow, standIns := [], harness := (true, "eba1d32c5a4777504255714775a24a7e2393635c3a905b725f26ca8861cdf9c2"), looks := true }, kinds := [], alts := [], laidByText := true, laidKinds := [.data, .data, .data, .sentinel, .sentinel], laidTests := true, laidLooks := .later }
def FnLandsUptoCardSaid : Prop := Claim7.holds Tryz.pinned (.plain (OpenSpec.upto fnLandsSpec)) fnLandsUptoCard

/-- THE SECOND FORM's CARD OF 'laws.FnAlarmStages'. -/
def fnAlarmStagesUptoCard : Claim7 := { stood := { row := fnAlarmStagesUptoRow, standIns := [], harness := (true, "eba1d32c5a4777504255714775a24a7e2393635c3a905b725f26ca8861cdf9c2"), looks := true }, kinds := [], alts := [], laidByText := true, laidKinds := [.data, .data, .data, .data, .sentinel, .sentinel, .pinned], laidTests := true, laidLooks := .later }
def FnAlarmStagesUptoCardSaid : Prop := Claim7.holds Tryz.pinned (.plain (OpenSpec.upto fnAlarmStagesSpec)) fnAlarmStagesUptoCard

/-- THE SECOND FORM's CARD OF 'laws.FnLevels'. -/
def fnLevelsUptoCard : Claim7 := { stood := { row := fnLevelsUptoRow, standIns := [], harness := (true, "eba1d32c5a4777504255714775a24a7e2393635c3a905b725f26ca8861cdf9c2"), looks := true }, kinds := [], alts := [], laidByText := true, laidKinds := [.data, .data, .data, .data, .sentinel, .sentinel, .pinned], laidTests := true, laidLooks := .later }
def FnLevelsUptoCardSaid : Prop := Claim7.holds Tryz.pinned (.plain (OpenSpec.upto fnLevelsSpec)) fnLevelsUptoCard
end Rows
end Go.Proofs.YtfhckmlmfigfjaaGreatDoor

/-
  DERIVED. GIVEN WITH THE SEED: THE CARDS: each row of YtnphbdcdncmojaaDoorRows.lean that lists a variable, with what it lists TIED to the program's text (the seventh form; the later family's looks); each row that meets fmt, with fmt's text TOLD by the authors' own Lean function (tested against real Go, not proved from fmt's source: count such statements apart). THE CARD IS WHAT COUNTS. Prove the row's statement (the work); the ties are given (YtnphbdcdncmojaaDoorTie.lean); close each card by the builder's one call (the guide's Derived/Test/ToyasCard.lean, 'card_holds'). Laid BY PROGRAM, IN A SANDBOX (cutbox-door.mjs). By AI agents, Wed Nov 11 2026. No macro, syntax, notation, axiom, sorry.
-/
import Derived.Test.YtnphbdcdncmojaaDoorRows
import GoSem.ClaimSeven
namespace Go.Proofs.YtnphbdcdncmojaaDoor
namespace Rows

/-- THE TIED CARD OF 'laws.FnControlRuns'. -/
def fnControlRunsCard : Claim7 := { stood := { row := fnControlRunsRow, standIns := [], harness := (true, "c9357e4ff58519019dbd2ffbfc5864656e17ab0d07b576c386607bd854c0aef9"), looks := true }, kinds := [], alts := [], laidByText := true, laidKinds := [.data, .data, .data, .sentinel, .sentinel], laidTests := true, laidLooks := .later }
def FnControlRunsCardSaid : Prop := Claim7.holds Tryd.pinned (.plain (OpenSpec.ofChange fnControlRunsSpec)) fnControlRunsCard

/-- THE TIED CARD OF 'laws.FnRainSums'. -/
def fnRainSumsCard : Claim7 := { stood := { row := fnRainSumsRow, standIns := [], harness := (true, "c9357e4ff58519019dbd2ffbfc5864656e17ab0d07b576c386607bd854c0aef9"), looks := true }, kinds := [], alts := [], laidByText := true, laidKinds := [.data, .data, .data, .sentinel, .sentinel], laidTests := true, laidLooks := .later }
def FnRainSumsCardSaid : Prop := Claim7.holds Tryd.pinned (.plain (OpenSpec.ofChange fnRainSumsSpec)) fnRainSumsCard

/-- THE TIED CARD OF 'laws.FnTideLevels'. -/
def fnTideLevelsCard : Claim7 := { stood := { row := fnTideLevelsRow, standIns := [], harness := (true, "c9357e4ff58519019dbd2ffbfc5864656e17ab0d07b576c386607bd854c0aef9"), looks := true }, kinds := [], alts := [], laidByText := true, laidKinds := [.data, .data, .data, .sentinel, .sentinel], laidTests := true, laidLooks := .later }
def FnTideLevelsCardSaid : Prop := Claim7.holds Tryd.pinned (.plain (OpenSpec.ofChange fnTideLevelsSpec)) fnTideLevelsCard

/-- THE TIED CARD OF 'laws.FnPayments'. -/
def fnPaymentsCard : Claim7 := { stood := { row := fnPaymentsRow, standIns := [], harness := (true, "c9357e4ff58519019dbd2ffbfc5864656e17ab0d07b576c386607bd854c0aef9"), looks := true }, kinds := [], alts := [], laidByText := true, laidKinds := [.data, .data, .data, .sentinel, .sentinel], laidTests := true, laidLooks := .later }
def FnPaymentsCardSaid : Prop := Claim7.holds Tryd.pinned (.plain (OpenSpec.ofChange fnPaymentsSpec)) fnPaymentsCard

/-- THE TIED CARD OF 'laws.FnMillStages'. -/
def fnMillStagesCard : Claim7 := { stood := { row := fnMillStagesRow, standIns := [], harness := (true, "c9357e4ff58519019dbd2ffbfc5864656e17ab0d07b576c386607bd854c0aef9"), looks := true }, kinds := [], alts := [], laidByText := true, laidKinds := [.data, .data, .data, .data, .sentinel, .sentinel, .pinned], laidTests := true, laidLooks := .later }
def FnMillStagesCardSaid : Prop := Claim7.holds Tryd.pinned (.plain (OpenSpec.ofChange fnMillStagesSpec)) fnMillStagesCard

/-- THE SECOND FORM's CARD OF 'laws.FnControlRuns'. -/
def fnControlRunsUptoCard : Claim7 := { stood := { row := fnControlRunsUptoRow, standIns := [], harness := (true, "c9357e4ff58519019dbd2ffbfc5864656e17ab0d07b576c386607bd854c0aef9"), looks := true }, kinds := [], alts := [], laidByText := true, laidKinds := [.data, .data, .data, .sentinel, .sentinel], laidTests := true, laidLooks := .later }
def FnControlRunsUptoCardSaid : Prop := Claim7.holds Tryd.pinned (.plain (OpenSpec.upto fnControlRunsSpec)) fnControlRunsUptoCard

/-- THE SECOND FORM's CARD OF 'laws.FnRainSums'. -/
def fnRainSumsUptoCard : Claim7 := { stood := { row := fnRainSumsUptoRow, standIns := [], harness := (true, "c9357e4ff58519019dbd2ffbfc5864656e17ab0d07b576c386607bd854c0aef9"), looks := true }, kinds := [], alts := [], laidByText := true, laidKinds := [.data, .data, .data, .sentinel, .sentinel], laidTests := true, laidLooks := .later }
def FnRainSumsUptoCardSaid : Prop := Claim7.holds Tryd.pinned (.plain (OpenSpec.upto fnRainSumsSpec)) fnRainSumsUptoCard

/-- THE SECOND FORM's CARD OF 'laws.FnTideLevels'. -/
def fnTideLevelsUptoCard : Claim7 := { stood := { row := fnTideLevelsUptoRow, standIns := [], harness := (true, "c9357e4ff58519019dbd2ffbfc5864656e17ab0d07b576c386607bd854c0aef9"), looks := true }, kinds := [], alts := [], laidByText := true, laidKinds := [.data, .data, .data, .sentinel, .sentinel], laidTests := true, laidLooks := .later }
def FnTideLevelsUptoCardSaid : Prop := Claim7.holds Tryd.pinned (.plain (OpenSpec.upto fnTideLevelsSpec)) fnTideLevelsUptoCard

/-- THE SECOND FORM's CARD OF 'laws.FnPayments'. -/
def fnPaymentsUptoCard : Claim7 := { stood := { row := fnPaymentsUptoRow, standIns := [], harness := (true, "c9357e4ff58519019dbd2ffbfc5864656e17ab0d07b576c386607bd854c0aef9"), looks := true }, kinds := [], alts := [], laidByText := true, laidKinds := [.data, .data, .data, .sentinel, .sentinel], laidTests := true, laidLooks := .later }
def FnPaymentsUptoCardSaid : Prop := Claim7.holds Tryd.pinned (.plain (OpenSpec.upto fnPaymentsSpec)) fnPaymentsUptoCard

/-- THE SECOND FORM's CARD OF 'laws.FnMillStages'. -/
def fnMillStagesUptoCard : Claim7 := { stood := { row := fnMillStagesUptoRow, standIns := [], harness := (true, "c9357e4ff58519019dbd2ffbfc5864656e17ab0d07b576c386607bd854c0aef9"), looks := true }, kinds := [], alts := [], laidByText := true, laidKinds := [.data, .data, .data, .data, .sentinel, .sentinel, .pinned], laidTests := true, laidLooks := .later }
def FnMillStagesUptoCardSaid : Prop := Claim7.holds Tryd.pinned (.plain (OpenSpec.upto fnMillStagesSpec)) fnMillStagesUptoCard
end Rows
end Go.Proofs.YtnphbdcdncmojaaDoor

/-
  DERIVED. GIVEN WITH THE SEED: THE CARDS: each row of YtneokdflhleidaaDoorRows.lean that lists a variable, with what it lists TIED to the program's text (the seventh form; the later family's looks); each row that meets fmt, with fmt's text TOLD by the authors' own Lean function (tested against real Go, not proved from fmt's source: count such statements apart). THE CARD IS WHAT COUNTS. Prove the row's statement (the work); the ties are given (YtneokdflhleidaaDoorTie.lean); close each card by the builder's one call (the guide's Derived/Test/ToyasCard.lean, 'card_holds'). Laid BY PROGRAM, IN A SANDBOX (cutbox-door.mjs). By AI agents, Wed Nov 11 2026. No macro, syntax, notation, axiom, sorry.
-/
import Derived.Test.YtneokdflhleidaaDoorRows
import GoSem.ClaimSeven
namespace Go.Proofs.YtneokdflhleidaaDoor
namespace Rows

/-- THE TIED CARD OF 'laws.FnPayments'. -/
def fnPaymentsCard : Claim7 := { stood := { row := fnPaymentsRow, standIns := [], harness := (true, "cb2786206b0213b0c3c4803c39562d6c37947cdd5b1db8b8c0ecc5ac61393236"), looks := true }, kinds := [], alts := [], laidByText := true, laidKinds := [.data, .data, .data, .sentinel, .sentinel], laidTests := true, laidLooks := .later }
def FnPaymentsCardSaid : Prop := Claim7.holds Tryd.pinned (.plain (OpenSpec.ofChange fnPaymentsSpec)) fnPaymentsCard

/-- THE TIED CARD OF 'laws.FnDefects'. -/
def fnDefectsCard : Claim7 := { stood := { row := fnDefectsRow, standIns := [], harness := (true, "cb2786206b0213b0c3c4803c39562d6c37947cdd5b1db8b8c0ecc5ac61393236"), looks := true }, kinds := [], alts := [], laidByText := true, laidKinds := [.data, .data, .data, .sentinel, .sentinel], laidTests := true, laidLooks := .later }
def FnDefectsCardSaid : Prop := Claim7.holds Tryd.pinned (.plain (OpenSpec.ofChange fnDefectsSpec)) fnDefectsCard

/-- THE TIED CARD OF 'laws.FnMillStages'. -/
def fnMillStagesCard : Claim7 := { stood := { row := fnMillStagesRow, standIns := [], harness := (true, "cb2786206b0213b0c3c4803c39562d6c37947cdd5b1db8b8c0ecc5ac61393236"), looks := true }, kinds := [], alts := [], laidByText := true, laidKinds := [.data, .data, .data, .data, .sentinel, .sentinel, .pinned], laidTests := true, laidLooks := .later }
def FnMillStagesCardSaid : Prop := Claim7.holds Tryd.pinned (.plain (OpenSpec.ofChange fnMillStagesSpec)) fnMillStagesCard

/-- THE SECOND FORM's CARD OF 'laws.FnPayments'. -/
def fnPaymentsUptoCard : Claim7 := { stood := { row := fnPaymentsUptoRow, standIns := [], harness := (true, "cb2786206b0213b0c3c4803c39562d6c37947cdd5b1db8b8c0ecc5ac61393236"), looks := true }, kinds := [], alts := [], laidByText := true, laidKinds := [.data, .data, .data, .sentinel, .sentinel], laidTests := true, laidLooks := .later }
def FnPaymentsUptoCardSaid : Prop := Claim7.holds Tryd.pinned (.plain (OpenSpec.upto fnPaymentsSpec)) fnPaymentsUptoCard

/-- THE SECOND FORM's CARD OF 'laws.FnDefects'. -/
def fnDefectsUptoCard : Claim7 := { stood := { row := fnDefectsUptoRow, standIns := [], harness := (true, "cb2786206b0213b0c3c4803c39562d6c37947cdd5b1db8b8c0ecc5ac61393236"), looks := true }, kinds := [], alts := [], laidByText := true, laidKinds := [.data, .data, .data, .sentinel, .sentinel], laidTests := true, laidLooks := .later }
def FnDefectsUptoCardSaid : Prop := Claim7.holds Tryd.pinned (.plain (OpenSpec.upto fnDefectsSpec)) fnDefectsUptoCard

/-- THE SECOND FORM's CARD OF 'laws.FnMillStages'. -/
def fnMillStagesUptoCard : Claim7 := { stood := { row := fnMillStagesUptoRow, standIns := [], harness := (true, "cb2786206b0213b0c3c4803c39562d6c37947cdd5b1db8b8c0ecc5ac61393236"), looks := true }, kinds := [], alts := [], laidByText := true, laidKinds := [.data, .data, .data, .data, .sentinel, .sentinel, .pinned], laidTests := true, laidLooks := .later }
def FnMillStagesUptoCardSaid : Prop := Claim7.holds Tryd.pinned (.plain (OpenSpec.upto fnMillStagesSpec)) fnMillStagesUptoCard
end Rows
end Go.Proofs.YtneokdflhleidaaDoor

/-
  DERIVED. GIVEN WITH THE SEED: THE CARDS: each row of YtneokdflhleidaaGreatDoorRows.lean that lists a variable, with what it lists TIED to the program's text (the seventh form; the later family's looks); each row that meets fmt, with fmt's text TOLD by the authors' own Lean function (tested against real Go, not proved from fmt's source: count such statements apart). THE CARD IS WHAT COUNTS. Prove the row's statement (the work); the ties are given (YtneokdflhleidaaGreatDoorTie.lean); close each card by the builder's one call (the guide's Derived/Test/ToyasCard.lean, 'card_holds'). Laid BY PROGRAM, IN A SANDBOX (cutbox-door.mjs). By AI agents, Wed Nov 11 2026. No macro, syntax, notation, axiom, sorry.
-/
import Derived.Test.YtneokdflhleidaaGreatDoorRows
import GoSem.ClaimSeven
namespace Go.Proofs.YtneokdflhleidaaGreatDoor
namespace Rows

/-- THE TIED CARD OF 'laws.FnBalances'. -/
def fnBalancesCard : Claim7 := { stood := { row := fnBalancesRow, standIns := [], harness := (true, "c7a505efe88bd8803e5313339eba5741e1130f5ec24e63501b4a71ab1d281cdd"), looks := true }, kinds := [], alts := [], laidByText := true, laidKinds := [.data, .data, .data, .sentinel, .sentinel], laidTests := true, laidLooks := .later }
def FnBalancesCardSaid : Prop := Claim7.holds Tryz.pinned (.plain (OpenSpec.ofChange fnBalancesSpec)) fnBalancesCard

/-- THE TIED CARD OF 'laws.FnDikes'. -/
def fnDikesCard : Claim7 := { stood := { row := fnDikesRow, standIns := [], harness := (true, "c7a505efe88bd8803e5313339eba5741e1130f5ec24e63501b4a71ab1d281cdd"), looks := true }, kinds := [], alts := [], laidByText := true, laidKinds := [.data, .data, .data, .sentinel, .sentinel], laidTests := true, laidLooks := .later }
def FnDikesCardSaid : Prop := Claim7.holds Tryz.pinned (.plain (OpenSpec.ofChange fnDikesSpec)) fnDikesCard

/-- THE TIED CARD OF 'laws.FnStorages'. -/
def fnStoragesCard : Claim7 := { stood := { row := fnStoragesRow, standIns := [], harness := (true, "c7a505efe88bd8803e5313339eba5741e1130f5ec24e63501b4a71ab1d281cdd"), looks := true }, kinds := [], alts := [], laidByText := true, laidKinds := [.data, .data, .data, .sentinel, .sentinel], laidTests := true, laidLooks := .later }
def FnStoragesCardSaid : Prop := Claim7.holds Tryz.pinned (.plain (OpenSpec.ofChange fnStoragesSpec)) fnStoragesCard

/-- THE SECOND FORM's CARD OF 'laws.FnBalances'. -/
def fnBalancesUptoCard : Claim7 := { stood := { row := fnBalancesUptoRow, standIns := [], harness := (true, "c7a505efe88bd8803e5313339eba5741e1130f5ec24e63501b4a71ab1d281cdd"), looks := true }, kinds := [], alts := [], laidByText := true, laidKinds := [.data, .data, .data, .sentinel, .sentinel], laidTests := true, laidLooks := .later }
def FnBalancesUptoCardSaid : Prop := Claim7.holds Tryz.pinned (.plain (OpenSpec.upto fnBalancesSpec)) fnBalancesUptoCard

/-- THE SECOND FORM's CARD OF 'laws.FnDikes'. -/
def fnDikesUptoCard : Claim7 := { stood := { row := fnDikesUptoRow, standIns := [], harness := (true, "c7a505efe88bd8803e5313339eba5741e1130f5ec24e63501b4a71ab1d281cdd"), looks := true }, kinds := [], alts := [], laidByText := true, laidKinds := [.data, .data, .data, .sentinel, .sentinel], laidTests := true, laidLooks := .later }
def FnDikesUptoCardSaid : Prop := Claim7.holds Tryz.pinned (.plain (OpenSpec.upto fnDikesSpec)) fnDikesUptoCard

/-- THE SECOND FORM's CARD OF 'laws.FnStorages'. -/
def fnStoragesUptoCard : Claim7 := { stood := { row := fnStoragesUptoRow, standIns := [], harness := (true, "c7a505efe88bd8803e5313339eba5741e1130f5ec24e63501b4a71ab1d281cdd"), looks := true }, kinds := [], alts := [], laidByText := true, laidKinds := [.data, .data, .data, .sentinel, .sentinel], laidTests := true, laidLooks := .later }
def FnStoragesUptoCardSaid : Prop := Claim7.holds Tryz.pinned (.plain (OpenSpec.upto fnStoragesSpec)) fnStoragesUptoCard
end Rows
end Go.Proofs.YtneokdflhleidaaGreatDoor

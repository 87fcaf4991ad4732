/-
  DERIVED. GIVEN WITH THE SEED: THE CARDS: each row of YtcmkkejcnomcdaaDoorRows.lean that lists a variable, with what it lists TIED to the program's text (the seventh form; the later family's looks); each row that meets fmt, with fmt's text TOLD by the authors' own Lean function (tested against real Go, not proved from fmt's source: count such statements apart). THE CARD IS WHAT COUNTS. Prove the row's statement (the work); the ties are given (YtcmkkejcnomcdaaDoorTie.lean); close each card by the builder's one call (the guide's Derived/Test/ToyasCard.lean, 'card_holds'). Laid BY PROGRAM, IN A SANDBOX (cutbox-door.mjs). By AI agents, Wed Nov 11 2026. No macro, syntax, notation, axiom, sorry.
-/
import Derived.Test.YtcmkkejcnomcdaaDoorRows
import GoSem.ClaimSeven
namespace Go.Proofs.YtcmkkejcnomcdaaDoor
namespace Rows

/-- THE TIED CARD OF 'laws.FnWorkSets'. -/
def fnWorkSetsCard : Claim7 := { stood := { row := fnWorkSetsRow, standIns := [], harness := (true, "c59e5ac82f054108dd602c42ab6f0ce259538027a25cc6c58bdb508dc9f35fef"), looks := false }, kinds := [], alts := [], laidByText := true, laidKinds := [.data, .data, .data], laidTests := true, laidLooks := .later }
def FnWorkSetsCardSaid : Prop := Claim7.holds Tryd.pinned (.plain (OpenSpec.ofChange fnWorkSetsSpec)) fnWorkSetsCard

/-- THE TIED CARD OF 'laws.FnTenders'. -/
def fnTendersCard : Claim7 := { stood := { row := fnTendersRow, standIns := [], harness := (true, "c59e5ac82f054108dd602c42ab6f0ce259538027a25cc6c58bdb508dc9f35fef"), looks := false }, kinds := [], alts := [], laidByText := true, laidKinds := [.data, .data, .data], laidTests := true, laidLooks := .later }
def FnTendersCardSaid : Prop := Claim7.holds Tryd.pinned (.plain (OpenSpec.ofChange fnTendersSpec)) fnTendersCard

/-- THE TIED CARD OF 'laws.FnPlans'. -/
def fnPlansCard : Claim7 := { stood := { row := fnPlansRow, standIns := [], harness := (true, "c59e5ac82f054108dd602c42ab6f0ce259538027a25cc6c58bdb508dc9f35fef"), looks := false }, kinds := [], alts := [], laidByText := true, laidKinds := [.data, .data, .data], laidTests := true, laidLooks := .later }
def FnPlansCardSaid : Prop := Claim7.holds Tryd.pinned (.plain (OpenSpec.ofChange fnPlansSpec)) fnPlansCard

/-- THE SECOND FORM's CARD OF 'laws.FnWorkSets'. -/
def fnWorkSetsUptoCard : Claim7 := { stood := { row := fnWorkSetsUptoRow, standIns := [], harness := (true, "c59e5ac82f054108dd602c42ab6f0ce259538027a25cc6c58bdb508dc9f35fef"), looks := false }, kinds := [], alts := [], laidByText := true, laidKinds := [.data, .data, .data], laidTests := true, laidLooks := .later }
def FnWorkSetsUptoCardSaid : Prop := Claim7.holds Tryd.pinned (.plain (OpenSpec.upto fnWorkSetsSpec)) fnWorkSetsUptoCard

/-- THE SECOND FORM's CARD OF 'laws.FnTenders'. -/
def fnTendersUptoCard : Claim7 := { stood := { row := fnTendersUptoRow, standIns := [], harness := (true, "c59e5ac82f054108dd602c42ab6f0ce259538027a25cc6c58bdb508dc9f35fef"), looks := false }, kinds := [], alts := [], laidByText := true, laidKinds := [.data, .data, .data], laidTests := true, laidLooks := .later }
def FnTendersUptoCardSaid : Prop := Claim7.holds Tryd.pinned (.plain (OpenSpec.upto fnTendersSpec)) fnTendersUptoCard

/-- THE SECOND FORM's CARD OF 'laws.FnPlans'. -/
def fnPlansUptoCard : Claim7 := { stood := { row := fnPlansUptoRow, standIns := [], harness := (true, "c59e5ac82f054108dd602c42ab6f0ce259538027a25cc6c58bdb508dc9f35fef"), looks := false }, kinds := [], alts := [], laidByText := true, laidKinds := [.data, .data, .data], laidTests := true, laidLooks := .later }
def FnPlansUptoCardSaid : Prop := Claim7.holds Tryd.pinned (.plain (OpenSpec.upto fnPlansSpec)) fnPlansUptoCard
end Rows
end Go.Proofs.YtcmkkejcnomcdaaDoor

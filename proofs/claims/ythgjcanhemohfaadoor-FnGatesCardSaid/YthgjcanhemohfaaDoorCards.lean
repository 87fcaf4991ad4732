/-
  DERIVED. GIVEN WITH THE SEED: THE CARDS: each row of YthgjcanhemohfaaDoorRows.lean that lists a variable, with what it lists TIED to the program's text (the seventh form; the later family's looks); each row that meets fmt, with fmt's text TOLD by the authors' own Lean function (tested against real Go, not proved from fmt's source: count such statements apart). THE CARD IS WHAT COUNTS. Prove the row's statement (the work); the ties are given (YthgjcanhemohfaaDoorTie.lean); close each card by the builder's one call (the guide's Derived/Test/ToyasCard.lean, 'card_holds'). Laid BY PROGRAM, IN A SANDBOX (cutbox-door.mjs). By AI agents, Wed Nov 11 2026. No macro, syntax, notation, axiom, sorry.
-/
import Derived.Test.YthgjcanhemohfaaDoorRows
import GoSem.ClaimSeven
namespace Go.Proofs.YthgjcanhemohfaaDoor
namespace Rows

/-- THE TIED CARD OF 'laws.FnGates'. -/
def fnGatesCard : Claim7 := { stood := { row := fnGatesRow, standIns := [], harness := (true, "be1486747937a1ff8d45cc23caf46f9de9db82245311d6c2adc3b9f878d303d6"), looks := false }, kinds := [], alts := [], laidByText := true, laidKinds := [.data, .data, .data], laidTests := true, laidLooks := .later }
def FnGatesCardSaid : Prop := Claim7.holds Tryd.pinned (.plain (OpenSpec.ofChange fnGatesSpec)) fnGatesCard

/-- THE SECOND FORM's CARD OF 'laws.FnGates'. -/
def fnGatesUptoCard : Claim7 := { stood := { row := fnGatesUptoRow, standIns := [], harness := (true, "be1486747937a1ff8d45cc23caf46f9de9db82245311d6c2adc3b9f878d303d6"), looks := false }, kinds := [], alts := [], laidByText := true, laidKinds := [.data, .data, .data], laidTests := true, laidLooks := .later }
def FnGatesUptoCardSaid : Prop := Claim7.holds Tryd.pinned (.plain (OpenSpec.upto fnGatesSpec)) fnGatesUptoCard
end Rows
end Go.Proofs.YthgjcanhemohfaaDoor

/-
  DERIVED. GIVEN WITH THE SEED: THE CARDS: each row of YthpnccneaaeomaaGreatDoorRows.lean that lists a variable, with what it lists TIED to the program's text (the seventh form; the later family's looks); each row that meets fmt, with fmt's text TOLD by the authors' own Lean function (tested against real Go, not proved from fmt's source: count such statements apart). THE CARD IS WHAT COUNTS. Prove the row's statement (the work); the ties are given (YthpnccneaaeomaaGreatDoorTie.lean); close each card by the builder's one call (the guide's Derived/Test/ToyasCard.lean, 'card_holds'). Laid BY PROGRAM, IN A SANDBOX (cutbox-door.mjs). By AI agents, Wed Nov 11 2026. No macro, syntax, notation, axiom, sorry.
-/
import Derived.Test.YthpnccneaaeomaaGreatDoorRows
import GoSem.ClaimSeven
namespace Go.Proofs.YthpnccneaaeomaaGreatDoor
namespace Rows

/-- THE TIED CARD OF 'chaselaw40.FaultKnown'. -/
def faultKnownCard : Claim7 := { stood := { row := faultKnownRow, standIns := [], harness := (true, "ffc0c9572e9584d15d40d7292b63c4cd10055d1420dc13674b77d261a3da02e7"), looks := false }, kinds := [], alts := [], laidByText := true, laidKinds := [.data, .data, .data], laidTests := true, laidLooks := .later }
def FaultKnownCardSaid : Prop := Claim7.holds Tryz.pinned (.plain (OpenSpec.ofChange faultKnownSpec)) faultKnownCard

/-- THE SECOND FORM's CARD OF 'chaselaw40.FaultKnown'. -/
def faultKnownUptoCard : Claim7 := { stood := { row := faultKnownUptoRow, standIns := [], harness := (true, "ffc0c9572e9584d15d40d7292b63c4cd10055d1420dc13674b77d261a3da02e7"), looks := false }, kinds := [], alts := [], laidByText := true, laidKinds := [.data, .data, .data], laidTests := true, laidLooks := .later }
def FaultKnownUptoCardSaid : Prop := Claim7.holds Tryz.pinned (.plain (OpenSpec.upto faultKnownSpec)) faultKnownUptoCard
end Rows
end Go.Proofs.YthpnccneaaeomaaGreatDoor

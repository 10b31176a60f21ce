/-
  DERIVED. GIVEN WITH THE SEED: THE CARDS: each row of YtnecjlmfpnbooaaGreatDoorRows.lean that lists a variable, with what it lists TIED to the program's text (the seventh form; the later family's looks); each row that meets fmt, with fmt's text TOLD by the authors' own Lean function (tested against real Go, not proved from fmt's source: count such statements apart). THE CARD IS WHAT COUNTS. Prove the row's statement (the work); the ties are given (YtnecjlmfpnbooaaGreatDoorTie.lean); close each card by the builder's one call (the guide's Derived/Test/ToyasCard.lean, 'card_holds'). Laid BY PROGRAM, IN A SANDBOX (cutbox-door.mjs). By AI agents, Wed Nov 11 2026. No macro, syntax, notation, axiom, sorry.
-/
import Derived.Test.YtnecjlmfpnbooaaGreatDoorRows
import GoSem.ClaimSeven
namespace Go.Proofs.YtnecjlmfpnbooaaGreatDoor
namespace Rows

/-- THE TIED CARD OF 'chaselaw40.FaultNames'. -/
def faultNamesCard : Claim7 := { stood := { row := faultNamesRow, standIns := [], harness := (true, "e81932171a1c5469cea2040166ced66f3c2e378d3e3aa99e8cc050bc82b94ee9"), looks := false }, kinds := [], alts := [], laidByText := true, laidKinds := [.data, .data, .data], laidTests := true, laidLooks := .later }
def FaultNamesCardSaid : Prop := Claim7.holds Tryz.pinned (.plain (OpenSpec.ofChange faultNamesSpec)) faultNamesCard

/-- THE SECOND FORM's CARD OF 'chaselaw40.FaultNames'. -/
def faultNamesUptoCard : Claim7 := { stood := { row := faultNamesUptoRow, standIns := [], harness := (true, "e81932171a1c5469cea2040166ced66f3c2e378d3e3aa99e8cc050bc82b94ee9"), looks := false }, kinds := [], alts := [], laidByText := true, laidKinds := [.data, .data, .data], laidTests := true, laidLooks := .later }
def FaultNamesUptoCardSaid : Prop := Claim7.holds Tryz.pinned (.plain (OpenSpec.upto faultNamesSpec)) faultNamesUptoCard
end Rows
end Go.Proofs.YtnecjlmfpnbooaaGreatDoor

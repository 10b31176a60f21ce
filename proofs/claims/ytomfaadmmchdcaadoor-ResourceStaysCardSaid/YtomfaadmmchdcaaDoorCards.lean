/-
  DERIVED. GIVEN WITH THE SEED: THE CARDS: each row of YtomfaadmmchdcaaDoorRows.lean that lists a variable, with what it lists TIED to the program's text (the seventh form; the later family's looks); each row that meets fmt, with fmt's text TOLD by the authors' own Lean function (tested against real Go, not proved from fmt's source: count such statements apart). THE CARD IS WHAT COUNTS. Prove the row's statement (the work); the ties are given (YtomfaadmmchdcaaDoorTie.lean); close each card by the builder's one call (the guide's Derived/Test/ToyasCard.lean, 'card_holds'). Laid BY PROGRAM, IN A SANDBOX (cutbox-door.mjs). By AI agents, Wed Nov 11 2026. No macro, syntax, notation, axiom, sorry.
-/
import Derived.Test.YtomfaadmmchdcaaDoorRows
import GoSem.ClaimSeven
namespace Go.Proofs.YtomfaadmmchdcaaDoor
namespace Rows

/-- THE TIED CARD OF 'chaselaw11.HeapEquals'. -/
def heapEqualsCard : Claim7 := { stood := { row := heapEqualsRow, standIns := [], harness := (true, "fd2619b89134ba49b9f92f397052bdd329d07d38442ac4688af7780af0eba34e"), looks := false }, kinds := [], alts := [], laidByText := true, laidKinds := [.data], laidTests := true, laidLooks := .later }
def HeapEqualsCardSaid : Prop := Claim7.holds Tryd.pinned (.plain (OpenSpec.ofChange heapEqualsSpec)) heapEqualsCard

/-- THE TIED CARD OF 'chaselaw18.ResourceStays'. -/
def resourceStaysCard : Claim7 := { stood := { row := resourceStaysRow, standIns := [], harness := (true, "fd2619b89134ba49b9f92f397052bdd329d07d38442ac4688af7780af0eba34e"), looks := false }, kinds := [], alts := [], laidByText := true, laidKinds := [.data], laidTests := true, laidLooks := .later }
def ResourceStaysCardSaid : Prop := Claim7.holds Tryd.pinned (.plain (OpenSpec.ofChange resourceStaysSpec)) resourceStaysCard

/-- THE TIED CARD OF 'chaselaw18.ResourceDoes'. -/
def resourceDoesCard : Claim7 := { stood := { row := resourceDoesRow, standIns := [], harness := (true, "fd2619b89134ba49b9f92f397052bdd329d07d38442ac4688af7780af0eba34e"), looks := false }, kinds := [], alts := [], laidByText := true, laidKinds := [.data], laidTests := true, laidLooks := .later }
def ResourceDoesCardSaid : Prop := Claim7.holds Tryd.pinned (.plain (OpenSpec.ofChange resourceDoesSpec)) resourceDoesCard

/-- THE SECOND FORM's CARD OF 'chaselaw11.HeapEquals'. -/
def heapEqualsUptoCard : Claim7 := { stood := { row := heapEqualsUptoRow, standIns := [], harness := (true, "fd2619b89134ba49b9f92f397052bdd329d07d38442ac4688af7780af0eba34e"), looks := false }, kinds := [], alts := [], laidByText := true, laidKinds := [.data], laidTests := true, laidLooks := .later }
def HeapEqualsUptoCardSaid : Prop := Claim7.holds Tryd.pinned (.plain (OpenSpec.upto heapEqualsSpec)) heapEqualsUptoCard

/-- THE SECOND FORM's CARD OF 'chaselaw18.ResourceStays'. -/
def resourceStaysUptoCard : Claim7 := { stood := { row := resourceStaysUptoRow, standIns := [], harness := (true, "fd2619b89134ba49b9f92f397052bdd329d07d38442ac4688af7780af0eba34e"), looks := false }, kinds := [], alts := [], laidByText := true, laidKinds := [.data], laidTests := true, laidLooks := .later }
def ResourceStaysUptoCardSaid : Prop := Claim7.holds Tryd.pinned (.plain (OpenSpec.upto resourceStaysSpec)) resourceStaysUptoCard

/-- THE SECOND FORM's CARD OF 'chaselaw18.ResourceDoes'. -/
def resourceDoesUptoCard : Claim7 := { stood := { row := resourceDoesUptoRow, standIns := [], harness := (true, "fd2619b89134ba49b9f92f397052bdd329d07d38442ac4688af7780af0eba34e"), looks := false }, kinds := [], alts := [], laidByText := true, laidKinds := [.data], laidTests := true, laidLooks := .later }
def ResourceDoesUptoCardSaid : Prop := Claim7.holds Tryd.pinned (.plain (OpenSpec.upto resourceDoesSpec)) resourceDoesUptoCard
end Rows
end Go.Proofs.YtomfaadmmchdcaaDoor

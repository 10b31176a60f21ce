/-
  DERIVED. GIVEN WITH THE SEED: THE CARDS: each row of YtomfaadmmchdcaaGreatDoorRows.lean that lists a variable, with what it lists TIED to the program's text (the seventh form; the later family's looks); each row that meets fmt, with fmt's text TOLD by the authors' own Lean function (tested against real Go, not proved from fmt's source: count such statements apart). THE CARD IS WHAT COUNTS. Prove the row's statement (the work); the ties are given (YtomfaadmmchdcaaGreatDoorTie.lean); close each card by the builder's one call (the guide's Derived/Test/ToyasCard.lean, 'card_holds'). Laid BY PROGRAM, IN A SANDBOX (cutbox-door.mjs). By AI agents, Wed Nov 11 2026. No macro, syntax, notation, axiom, sorry.
-/
import Derived.Test.YtomfaadmmchdcaaGreatDoorRows
import GoSem.ClaimSeven
namespace Go.Proofs.YtomfaadmmchdcaaGreatDoor
namespace Rows

/-- THE TIED CARD OF 'chaselaw18.ResourceRuns'. -/
def resourceRunsCard : Claim7 := { stood := { row := resourceRunsRow, standIns := [], harness := (true, "11f158f83da5bb14aba8c1ffee145425eb9a0ea2a8c05a40a85ae5851c39b885"), looks := false }, kinds := [], alts := [], laidByText := true, laidKinds := [.data], laidTests := true, laidLooks := .later }
def ResourceRunsCardSaid : Prop := Claim7.holds Tryz.pinned (.plain (OpenSpec.ofChange resourceRunsSpec)) resourceRunsCard

/-- THE TIED CARD OF 'chaselaw16.DictLooks'. -/
def dictLooksCard : Claim7 := { stood := { row := dictLooksRow, standIns := [], harness := (true, "11f158f83da5bb14aba8c1ffee145425eb9a0ea2a8c05a40a85ae5851c39b885"), looks := false }, kinds := [], alts := [], laidByText := true, laidKinds := [.data], laidTests := true, laidLooks := .later }
def DictLooksCardSaid : Prop := Claim7.holds Tryz.pinned (.plain (OpenSpec.ofChange dictLooksSpec)) dictLooksCard

/-- THE TIED CARD OF 'chaselaw16.DictStores'. -/
def dictStoresCard : Claim7 := { stood := { row := dictStoresRow, standIns := [], harness := (true, "11f158f83da5bb14aba8c1ffee145425eb9a0ea2a8c05a40a85ae5851c39b885"), looks := false }, kinds := [], alts := [], laidByText := true, laidKinds := [.data], laidTests := true, laidLooks := .later }
def DictStoresCardSaid : Prop := Claim7.holds Tryz.pinned (.plain (OpenSpec.ofChange dictStoresSpec)) dictStoresCard

/-- THE TIED CARD OF 'chaselaw16.DictDoes'. -/
def dictDoesCard : Claim7 := { stood := { row := dictDoesRow, standIns := [], harness := (true, "11f158f83da5bb14aba8c1ffee145425eb9a0ea2a8c05a40a85ae5851c39b885"), looks := false }, kinds := [], alts := [], laidByText := true, laidKinds := [.data], laidTests := true, laidLooks := .later }
def DictDoesCardSaid : Prop := Claim7.holds Tryz.pinned (.plain (OpenSpec.ofChange dictDoesSpec)) dictDoesCard

/-- THE TIED CARD OF 'chaselaw16.DictRuns'. -/
def dictRunsCard : Claim7 := { stood := { row := dictRunsRow, standIns := [], harness := (true, "11f158f83da5bb14aba8c1ffee145425eb9a0ea2a8c05a40a85ae5851c39b885"), looks := false }, kinds := [], alts := [], laidByText := true, laidKinds := [.data], laidTests := true, laidLooks := .later }
def DictRunsCardSaid : Prop := Claim7.holds Tryz.pinned (.plain (OpenSpec.ofChange dictRunsSpec)) dictRunsCard

/-- THE TIED CARD OF 'chaselaw16.DictDefines'. -/
def dictDefinesCard : Claim7 := { stood := { row := dictDefinesRow, standIns := [], harness := (true, "11f158f83da5bb14aba8c1ffee145425eb9a0ea2a8c05a40a85ae5851c39b885"), looks := false }, kinds := [], alts := [], laidByText := true, laidKinds := [.data], laidTests := true, laidLooks := .later }
def DictDefinesCardSaid : Prop := Claim7.holds Tryz.pinned (.plain (OpenSpec.ofChange dictDefinesSpec)) dictDefinesCard

/-- THE TIED CARD OF 'chaselaw16.DictUndoes'. -/
def dictUndoesCard : Claim7 := { stood := { row := dictUndoesRow, standIns := [], harness := (true, "11f158f83da5bb14aba8c1ffee145425eb9a0ea2a8c05a40a85ae5851c39b885"), looks := false }, kinds := [], alts := [], laidByText := true, laidKinds := [.data], laidTests := true, laidLooks := .later }
def DictUndoesCardSaid : Prop := Claim7.holds Tryz.pinned (.plain (OpenSpec.ofChange dictUndoesSpec)) dictUndoesCard

/-- THE TIED CARD OF 'chaselaw16.DictPairs'. -/
def dictPairsCard : Claim7 := { stood := { row := dictPairsRow, standIns := [], harness := (true, "11f158f83da5bb14aba8c1ffee145425eb9a0ea2a8c05a40a85ae5851c39b885"), looks := false }, kinds := [], alts := [], laidByText := true, laidKinds := [.data], laidTests := true, laidLooks := .later }
def DictPairsCardSaid : Prop := Claim7.holds Tryz.pinned (.plain (OpenSpec.ofChange dictPairsSpec)) dictPairsCard

/-- THE SECOND FORM's CARD OF 'chaselaw18.ResourceRuns'. -/
def resourceRunsUptoCard : Claim7 := { stood := { row := resourceRunsUptoRow, standIns := [], harness := (true, "11f158f83da5bb14aba8c1ffee145425eb9a0ea2a8c05a40a85ae5851c39b885"), looks := false }, kinds := [], alts := [], laidByText := true, laidKinds := [.data], laidTests := true, laidLooks := .later }
def ResourceRunsUptoCardSaid : Prop := Claim7.holds Tryz.pinned (.plain (OpenSpec.upto resourceRunsSpec)) resourceRunsUptoCard

/-- THE SECOND FORM's CARD OF 'chaselaw16.DictLooks'. -/
def dictLooksUptoCard : Claim7 := { stood := { row := dictLooksUptoRow, standIns := [], harness := (true, "11f158f83da5bb14aba8c1ffee145425eb9a0ea2a8c05a40a85ae5851c39b885"), looks := false }, kinds := [], alts := [], laidByText := true, laidKinds := [.data], laidTests := true, laidLooks := .later }
def DictLooksUptoCardSaid : Prop := Claim7.holds Tryz.pinned (.plain (OpenSpec.upto dictLooksSpec)) dictLooksUptoCard

/-- THE SECOND FORM's CARD OF 'chaselaw16.DictStores'. -/
def dictStoresUptoCard : Claim7 := { stood := { row := dictStoresUptoRow, standIns := [], harness := (true, "11f158f83da5bb14aba8c1ffee145425eb9a0ea2a8c05a40a85ae5851c39b885"), looks := false }, kinds := [], alts := [], laidByText := true, laidKinds := [.data], laidTests := true, laidLooks := .later }
def DictStoresUptoCardSaid : Prop := Claim7.holds Tryz.pinned (.plain (OpenSpec.upto dictStoresSpec)) dictStoresUptoCard

/-- THE SECOND FORM's CARD OF 'chaselaw16.DictDoes'. -/
def dictDoesUptoCard : Claim7 := { stood := { row := dictDoesUptoRow, standIns := [], harness := (true, "11f158f83da5bb14aba8c1ffee145425eb9a0ea2a8c05a40a85ae5851c39b885"), looks := false }, kinds := [], alts := [], laidByText := true, laidKinds := [.data], laidTests := true, laidLooks := .later }
def DictDoesUptoCardSaid : Prop := Claim7.holds Tryz.pinned (.plain (OpenSpec.upto dictDoesSpec)) dictDoesUptoCard

/-- THE SECOND FORM's CARD OF 'chaselaw16.DictRuns'. -/
def dictRunsUptoCard : Claim7 := { stood := { row := dictRunsUptoRow, standIns := [], harness := (true, "11f158f83da5bb14aba8c1ffee145425eb9a0ea2a8c05a40a85ae5851c39b885"), looks := false }, kinds := [], alts := [], laidByText := true, laidKinds := [.data], laidTests := true, laidLooks := .later }
def DictRunsUptoCardSaid : Prop := Claim7.holds Tryz.pinned (.plain (OpenSpec.upto dictRunsSpec)) dictRunsUptoCard

/-- THE SECOND FORM's CARD OF 'chaselaw16.DictDefines'. -/
def dictDefinesUptoCard : Claim7 := { stood := { row := dictDefinesUptoRow, standIns := [], harness := (true, "11f158f83da5bb14aba8c1ffee145425eb9a0ea2a8c05a40a85ae5851c39b885"), looks := false }, kinds := [], alts := [], laidByText := true, laidKinds := [.data], laidTests := true, laidLooks := .later }
def DictDefinesUptoCardSaid : Prop := Claim7.holds Tryz.pinned (.plain (OpenSpec.upto dictDefinesSpec)) dictDefinesUptoCard

/-- THE SECOND FORM's CARD OF 'chaselaw16.DictUndoes'. -/
def dictUndoesUptoCard : Claim7 := { stood := { row := dictUndoesUptoRow, standIns := [], harness := (true, "11f158f83da5bb14aba8c1ffee145425eb9a0ea2a8c05a40a85ae5851c39b885"), looks := false }, kinds := [], alts := [], laidByText := true, laidKinds := [.data], laidTests := true, laidLooks := .later }
def DictUndoesUptoCardSaid : Prop := Claim7.holds Tryz.pinned (.plain (OpenSpec.upto dictUndoesSpec)) dictUndoesUptoCard

/-- THE SECOND FORM's CARD OF 'chaselaw16.DictPairs'. -/
def dictPairsUptoCard : Claim7 := { stood := { row := dictPairsUptoRow, standIns := [], harness := (true, "11f158f83da5bb14aba8c1ffee145425eb9a0ea2a8c05a40a85ae5851c39b885"), looks := false }, kinds := [], alts := [], laidByText := true, laidKinds := [.data], laidTests := true, laidLooks := .later }
def DictPairsUptoCardSaid : Prop := Claim7.holds Tryz.pinned (.plain (OpenSpec.upto dictPairsSpec)) dictPairsUptoCard
end Rows
end Go.Proofs.YtomfaadmmchdcaaGreatDoor

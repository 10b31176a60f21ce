/-
  DERIVED. GIVEN WITH THE SEED: THE CARDS: each row of YtblkalcialfiaaaDoorRows.lean that lists a variable, with what it lists TIED to the program's text (the seventh form; the later family's looks); each row that meets fmt, with fmt's text TOLD by the authors' own Lean function (tested against real Go, not proved from fmt's source: count such statements apart). THE CARD IS WHAT COUNTS. Prove the row's statement (the work); the ties are given (YtblkalcialfiaaaDoorTie.lean); close each card by the builder's one call (the guide's Derived/Test/ToyasCard.lean, 'card_holds'). Laid BY PROGRAM, IN A SANDBOX (cutbox-door.mjs). By AI agents, Wed Nov 11 2026. No macro, syntax, notation, axiom, sorry.
-/
import Derived.Test.YtblkalcialfiaaaDoorRows
import GoSem.ClaimSeven
namespace Go.Proofs.YtblkalcialfiaaaDoor
namespace Rows

/-- THE TIED CARD OF 'chaselaw19.SaveRestores'. -/
def saveRestoresCard : Claim7 := { stood := { row := saveRestoresRow, standIns := [], harness := (true, "e028fa55640ee12f8adcd8f818612ea1c8a84bf941ad4efd8bb589c0aae80e1b"), looks := false }, kinds := [], alts := [], laidByText := true, laidKinds := [.data], laidTests := true, laidLooks := .later }
def SaveRestoresCardSaid : Prop := Claim7.holds Tryd.pinned (.plain (OpenSpec.ofChange saveRestoresSpec)) saveRestoresCard

/-- THE TIED CARD OF 'chaselaw19.SaveNests'. -/
def saveNestsCard : Claim7 := { stood := { row := saveNestsRow, standIns := [], harness := (true, "e028fa55640ee12f8adcd8f818612ea1c8a84bf941ad4efd8bb589c0aae80e1b"), looks := false }, kinds := [], alts := [], laidByText := true, laidKinds := [.data], laidTests := true, laidLooks := .later }
def SaveNestsCardSaid : Prop := Claim7.holds Tryd.pinned (.plain (OpenSpec.ofChange saveNestsSpec)) saveNestsCard

/-- THE TIED CARD OF 'chaselaw11.HeapChecks'. -/
def heapChecksCard : Claim7 := { stood := { row := heapChecksRow, standIns := [], harness := (true, "e028fa55640ee12f8adcd8f818612ea1c8a84bf941ad4efd8bb589c0aae80e1b"), looks := false }, kinds := [], alts := [], laidByText := true, laidKinds := [.data], laidTests := true, laidLooks := .later }
def HeapChecksCardSaid : Prop := Claim7.holds Tryd.pinned (.plain (OpenSpec.ofChange heapChecksSpec)) heapChecksCard

/-- THE TIED CARD OF 'chaselaw11.HeapEquals'. -/
def heapEqualsCard : Claim7 := { stood := { row := heapEqualsRow, standIns := [], harness := (true, "e028fa55640ee12f8adcd8f818612ea1c8a84bf941ad4efd8bb589c0aae80e1b"), looks := false }, kinds := [], alts := [], laidByText := true, laidKinds := [.data], laidTests := true, laidLooks := .later }
def HeapEqualsCardSaid : Prop := Claim7.holds Tryd.pinned (.plain (OpenSpec.ofChange heapEqualsSpec)) heapEqualsCard

/-- THE TIED CARD OF 'chaselaw11.HeapAlike'. -/
def heapAlikeCard : Claim7 := { stood := { row := heapAlikeRow, standIns := [], harness := (true, "e028fa55640ee12f8adcd8f818612ea1c8a84bf941ad4efd8bb589c0aae80e1b"), looks := false }, kinds := [], alts := [], laidByText := true, laidKinds := [.data], laidTests := true, laidLooks := .later }
def HeapAlikeCardSaid : Prop := Claim7.holds Tryd.pinned (.plain (OpenSpec.ofChange heapAlikeSpec)) heapAlikeCard

/-- THE TIED CARD OF 'chaselaw18.ResourceFinds'. -/
def resourceFindsCard : Claim7 := { stood := { row := resourceFindsRow, standIns := [], harness := (true, "e028fa55640ee12f8adcd8f818612ea1c8a84bf941ad4efd8bb589c0aae80e1b"), looks := false }, kinds := [], alts := [], laidByText := true, laidKinds := [.data], laidTests := true, laidLooks := .later }
def ResourceFindsCardSaid : Prop := Claim7.holds Tryd.pinned (.plain (OpenSpec.ofChange resourceFindsSpec)) resourceFindsCard

/-- THE TIED CARD OF 'chaselaw18.ResourceStays'. -/
def resourceStaysCard : Claim7 := { stood := { row := resourceStaysRow, standIns := [], harness := (true, "e028fa55640ee12f8adcd8f818612ea1c8a84bf941ad4efd8bb589c0aae80e1b"), looks := false }, kinds := [], alts := [], laidByText := true, laidKinds := [.data], laidTests := true, laidLooks := .later }
def ResourceStaysCardSaid : Prop := Claim7.holds Tryd.pinned (.plain (OpenSpec.ofChange resourceStaysSpec)) resourceStaysCard

/-- THE TIED CARD OF 'chaselaw18.ResourceSuits'. -/
def resourceSuitsCard : Claim7 := { stood := { row := resourceSuitsRow, standIns := [], harness := (true, "e028fa55640ee12f8adcd8f818612ea1c8a84bf941ad4efd8bb589c0aae80e1b"), looks := false }, kinds := [], alts := [], laidByText := true, laidKinds := [.data], laidTests := true, laidLooks := .later }
def ResourceSuitsCardSaid : Prop := Claim7.holds Tryd.pinned (.plain (OpenSpec.ofChange resourceSuitsSpec)) resourceSuitsCard

/-- THE TIED CARD OF 'chaselaw18.ResourceDoes'. -/
def resourceDoesCard : Claim7 := { stood := { row := resourceDoesRow, standIns := [], harness := (true, "e028fa55640ee12f8adcd8f818612ea1c8a84bf941ad4efd8bb589c0aae80e1b"), looks := false }, kinds := [], alts := [], laidByText := true, laidKinds := [.data], laidTests := true, laidLooks := .later }
def ResourceDoesCardSaid : Prop := Claim7.holds Tryd.pinned (.plain (OpenSpec.ofChange resourceDoesSpec)) resourceDoesCard

/-- THE TIED CARD OF 'chaselaw11.HeapPuts'. -/
def heapPutsCard : Claim7 := { stood := { row := heapPutsRow, standIns := [], harness := (true, "e028fa55640ee12f8adcd8f818612ea1c8a84bf941ad4efd8bb589c0aae80e1b"), looks := false }, kinds := [], alts := [], laidByText := true, laidKinds := [.data], laidTests := true, laidLooks := .later }
def HeapPutsCardSaid : Prop := Claim7.holds Tryd.pinned (.plain (OpenSpec.ofChange heapPutsSpec)) heapPutsCard

/-- THE TIED CARD OF 'chaselaw11.HeapReads'. -/
def heapReadsCard : Claim7 := { stood := { row := heapReadsRow, standIns := [], harness := (true, "e028fa55640ee12f8adcd8f818612ea1c8a84bf941ad4efd8bb589c0aae80e1b"), looks := false }, kinds := [], alts := [], laidByText := true, laidKinds := [.data], laidTests := true, laidLooks := .later }
def HeapReadsCardSaid : Prop := Claim7.holds Tryd.pinned (.plain (OpenSpec.ofChange heapReadsSpec)) heapReadsCard

/-- THE TIED CARD OF 'chaselaw11.HeapKeys'. -/
def heapKeysCard : Claim7 := { stood := { row := heapKeysRow, standIns := [], harness := (true, "e028fa55640ee12f8adcd8f818612ea1c8a84bf941ad4efd8bb589c0aae80e1b"), looks := false }, kinds := [], alts := [], laidByText := true, laidKinds := [.data], laidTests := true, laidLooks := .later }
def HeapKeysCardSaid : Prop := Claim7.holds Tryd.pinned (.plain (OpenSpec.ofChange heapKeysSpec)) heapKeysCard

/-- THE SECOND FORM's CARD OF 'chaselaw19.SaveRestores'. -/
def saveRestoresUptoCard : Claim7 := { stood := { row := saveRestoresUptoRow, standIns := [], harness := (true, "e028fa55640ee12f8adcd8f818612ea1c8a84bf941ad4efd8bb589c0aae80e1b"), looks := false }, kinds := [], alts := [], laidByText := true, laidKinds := [.data], laidTests := true, laidLooks := .later }
def SaveRestoresUptoCardSaid : Prop := Claim7.holds Tryd.pinned (.plain (OpenSpec.upto saveRestoresSpec)) saveRestoresUptoCard

/-- THE SECOND FORM's CARD OF 'chaselaw19.SaveNests'. -/
def saveNestsUptoCard : Claim7 := { stood := { row := saveNestsUptoRow, standIns := [], harness := (true, "e028fa55640ee12f8adcd8f818612ea1c8a84bf941ad4efd8bb589c0aae80e1b"), looks := false }, kinds := [], alts := [], laidByText := true, laidKinds := [.data], laidTests := true, laidLooks := .later }
def SaveNestsUptoCardSaid : Prop := Claim7.holds Tryd.pinned (.plain (OpenSpec.upto saveNestsSpec)) saveNestsUptoCard

/-- THE SECOND FORM's CARD OF 'chaselaw11.HeapChecks'. -/
def heapChecksUptoCard : Claim7 := { stood := { row := heapChecksUptoRow, standIns := [], harness := (true, "e028fa55640ee12f8adcd8f818612ea1c8a84bf941ad4efd8bb589c0aae80e1b"), looks := false }, kinds := [], alts := [], laidByText := true, laidKinds := [.data], laidTests := true, laidLooks := .later }
def HeapChecksUptoCardSaid : Prop := Claim7.holds Tryd.pinned (.plain (OpenSpec.upto heapChecksSpec)) heapChecksUptoCard

/-- THE SECOND FORM's CARD OF 'chaselaw11.HeapEquals'. -/
def heapEqualsUptoCard : Claim7 := { stood := { row := heapEqualsUptoRow, standIns := [], harness := (true, "e028fa55640ee12f8adcd8f818612ea1c8a84bf941ad4efd8bb589c0aae80e1b"), looks := false }, kinds := [], alts := [], laidByText := true, laidKinds := [.data], laidTests := true, laidLooks := .later }
def HeapEqualsUptoCardSaid : Prop := Claim7.holds Tryd.pinned (.plain (OpenSpec.upto heapEqualsSpec)) heapEqualsUptoCard

/-- THE SECOND FORM's CARD OF 'chaselaw11.HeapAlike'. -/
def heapAlikeUptoCard : Claim7 := { stood := { row := heapAlikeUptoRow, standIns := [], harness := (true, "e028fa55640ee12f8adcd8f818612ea1c8a84bf941ad4efd8bb589c0aae80e1b"), looks := false }, kinds := [], alts := [], laidByText := true, laidKinds := [.data], laidTests := true, laidLooks := .later }
def HeapAlikeUptoCardSaid : Prop := Claim7.holds Tryd.pinned (.plain (OpenSpec.upto heapAlikeSpec)) heapAlikeUptoCard

/-- THE SECOND FORM's CARD OF 'chaselaw18.ResourceFinds'. -/
def resourceFindsUptoCard : Claim7 := { stood := { row := resourceFindsUptoRow, standIns := [], harness := (true, "e028fa55640ee12f8adcd8f818612ea1c8a84bf941ad4efd8bb589c0aae80e1b"), looks := false }, kinds := [], alts := [], laidByText := true, laidKinds := [.data], laidTests := true, laidLooks := .later }
def ResourceFindsUptoCardSaid : Prop := Claim7.holds Tryd.pinned (.plain (OpenSpec.upto resourceFindsSpec)) resourceFindsUptoCard

/-- THE SECOND FORM's CARD OF 'chaselaw18.ResourceStays'. -/
def resourceStaysUptoCard : Claim7 := { stood := { row := resourceStaysUptoRow, standIns := [], harness := (true, "e028fa55640ee12f8adcd8f818612ea1c8a84bf941ad4efd8bb589c0aae80e1b"), looks := false }, kinds := [], alts := [], laidByText := true, laidKinds := [.data], laidTests := true, laidLooks := .later }
def ResourceStaysUptoCardSaid : Prop := Claim7.holds Tryd.pinned (.plain (OpenSpec.upto resourceStaysSpec)) resourceStaysUptoCard

/-- THE SECOND FORM's CARD OF 'chaselaw18.ResourceSuits'. -/
def resourceSuitsUptoCard : Claim7 := { stood := { row := resourceSuitsUptoRow, standIns := [], harness := (true, "e028fa55640ee12f8adcd8f818612ea1c8a84bf941ad4efd8bb589c0aae80e1b"), looks := false }, kinds := [], alts := [], laidByText := true, laidKinds := [.data], laidTests := true, laidLooks := .later }
def ResourceSuitsUptoCardSaid : Prop := Claim7.holds Tryd.pinned (.plain (OpenSpec.upto resourceSuitsSpec)) resourceSuitsUptoCard

/-- THE SECOND FORM's CARD OF 'chaselaw18.ResourceDoes'. -/
def resourceDoesUptoCard : Claim7 := { stood := { row := resourceDoesUptoRow, standIns := [], harness := (true, "e028fa55640ee12f8adcd8f818612ea1c8a84bf941ad4efd8bb589c0aae80e1b"), looks := false }, kinds := [], alts := [], laidByText := true, laidKinds := [.data], laidTests := true, laidLooks := .later }
def ResourceDoesUptoCardSaid : Prop := Claim7.holds Tryd.pinned (.plain (OpenSpec.upto resourceDoesSpec)) resourceDoesUptoCard

/-- THE SECOND FORM's CARD OF 'chaselaw11.HeapPuts'. -/
def heapPutsUptoCard : Claim7 := { stood := { row := heapPutsUptoRow, standIns := [], harness := (true, "e028fa55640ee12f8adcd8f818612ea1c8a84bf941ad4efd8bb589c0aae80e1b"), looks := false }, kinds := [], alts := [], laidByText := true, laidKinds := [.data], laidTests := true, laidLooks := .later }
def HeapPutsUptoCardSaid : Prop := Claim7.holds Tryd.pinned (.plain (OpenSpec.upto heapPutsSpec)) heapPutsUptoCard

/-- THE SECOND FORM's CARD OF 'chaselaw11.HeapReads'. -/
def heapReadsUptoCard : Claim7 := { stood := { row := heapReadsUptoRow, standIns := [], harness := (true, "e028fa55640ee12f8adcd8f818612ea1c8a84bf941ad4efd8bb589c0aae80e1b"), looks := false }, kinds := [], alts := [], laidByText := true, laidKinds := [.data], laidTests := true, laidLooks := .later }
def HeapReadsUptoCardSaid : Prop := Claim7.holds Tryd.pinned (.plain (OpenSpec.upto heapReadsSpec)) heapReadsUptoCard

/-- THE SECOND FORM's CARD OF 'chaselaw11.HeapKeys'. -/
def heapKeysUptoCard : Claim7 := { stood := { row := heapKeysUptoRow, standIns := [], harness := (true, "e028fa55640ee12f8adcd8f818612ea1c8a84bf941ad4efd8bb589c0aae80e1b"), looks := false }, kinds := [], alts := [], laidByText := true, laidKinds := [.data], laidTests := true, laidLooks := .later }
def HeapKeysUptoCardSaid : Prop := Claim7.holds Tryd.pinned (.plain (OpenSpec.upto heapKeysSpec)) heapKeysUptoCard
end Rows
end Go.Proofs.YtblkalcialfiaaaDoor

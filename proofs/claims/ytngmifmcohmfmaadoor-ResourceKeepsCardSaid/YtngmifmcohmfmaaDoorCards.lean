/-
  DERIVED. GIVEN WITH THE SEED: THE CARDS: each row of YtngmifmcohmfmaaDoorRows.lean that lists a variable, with what it lists TIED to the program's text (the seventh form; the later family's looks); each row that meets fmt, with fmt's text TOLD by the authors' own Lean function (tested against real Go, not proved from fmt's source: count such statements apart). THE CARD IS WHAT COUNTS. Prove the row's statement (the work); the ties are given (YtngmifmcohmfmaaDoorTie.lean); close each card by the builder's one call (the guide's Derived/Test/ToyasCard.lean, 'card_holds'). Laid BY PROGRAM, IN A SANDBOX (cutbox-door.mjs). By AI agents, Wed Nov 11 2026. No macro, syntax, notation, axiom, sorry.
-/
import Derived.Test.YtngmifmcohmfmaaDoorRows
import GoSem.ClaimSeven
namespace Go.Proofs.YtngmifmcohmfmaaDoor
namespace Rows

/-- THE TIED CARD OF 'chaselaw19.SaveRestores'. -/
def saveRestoresCard : Claim7 := { stood := { row := saveRestoresRow, standIns := [], harness := (true, "89cad0a99b24306b17739309c76a094d448346d7c8813182288f7d14a9890ada"), looks := false }, kinds := [], alts := [], laidByText := true, laidKinds := [.data], laidTests := true, laidLooks := .later }
def SaveRestoresCardSaid : Prop := Claim7.holds Tryd.pinned (.plain (OpenSpec.ofChange saveRestoresSpec)) saveRestoresCard

/-- THE TIED CARD OF 'chaselaw19.SaveNests'. -/
def saveNestsCard : Claim7 := { stood := { row := saveNestsRow, standIns := [], harness := (true, "89cad0a99b24306b17739309c76a094d448346d7c8813182288f7d14a9890ada"), looks := false }, kinds := [], alts := [], laidByText := true, laidKinds := [.data], laidTests := true, laidLooks := .later }
def SaveNestsCardSaid : Prop := Claim7.holds Tryd.pinned (.plain (OpenSpec.ofChange saveNestsSpec)) saveNestsCard

/-- THE TIED CARD OF 'chaselaw11.HeapChecks'. -/
def heapChecksCard : Claim7 := { stood := { row := heapChecksRow, standIns := [], harness := (true, "89cad0a99b24306b17739309c76a094d448346d7c8813182288f7d14a9890ada"), looks := false }, kinds := [], alts := [], laidByText := true, laidKinds := [.data], laidTests := true, laidLooks := .later }
def HeapChecksCardSaid : Prop := Claim7.holds Tryd.pinned (.plain (OpenSpec.ofChange heapChecksSpec)) heapChecksCard

/-- THE TIED CARD OF 'chaselaw11.HeapEquals'. -/
def heapEqualsCard : Claim7 := { stood := { row := heapEqualsRow, standIns := [], harness := (true, "89cad0a99b24306b17739309c76a094d448346d7c8813182288f7d14a9890ada"), looks := false }, kinds := [], alts := [], laidByText := true, laidKinds := [.data], laidTests := true, laidLooks := .later }
def HeapEqualsCardSaid : Prop := Claim7.holds Tryd.pinned (.plain (OpenSpec.ofChange heapEqualsSpec)) heapEqualsCard

/-- THE TIED CARD OF 'chaselaw18.ResourceStays'. -/
def resourceStaysCard : Claim7 := { stood := { row := resourceStaysRow, standIns := [], harness := (true, "89cad0a99b24306b17739309c76a094d448346d7c8813182288f7d14a9890ada"), looks := false }, kinds := [], alts := [], laidByText := true, laidKinds := [.data], laidTests := true, laidLooks := .later }
def ResourceStaysCardSaid : Prop := Claim7.holds Tryd.pinned (.plain (OpenSpec.ofChange resourceStaysSpec)) resourceStaysCard

/-- THE TIED CARD OF 'chaselaw18.ResourceDoes'. -/
def resourceDoesCard : Claim7 := { stood := { row := resourceDoesRow, standIns := [], harness := (true, "89cad0a99b24306b17739309c76a094d448346d7c8813182288f7d14a9890ada"), looks := false }, kinds := [], alts := [], laidByText := true, laidKinds := [.data], laidTests := true, laidLooks := .later }
def ResourceDoesCardSaid : Prop := Claim7.holds Tryd.pinned (.plain (OpenSpec.ofChange resourceDoesSpec)) resourceDoesCard

/-- THE TIED CARD OF 'chaselaw11.HeapKeeps'. -/
def heapKeepsCard : Claim7 := { stood := { row := heapKeepsRow, standIns := [], harness := (true, "89cad0a99b24306b17739309c76a094d448346d7c8813182288f7d14a9890ada"), looks := false }, kinds := [], alts := [], laidByText := true, laidKinds := [.data], laidTests := true, laidLooks := .later }
def HeapKeepsCardSaid : Prop := Claim7.holds Tryd.pinned (.plain (OpenSpec.ofChange heapKeepsSpec)) heapKeepsCard

/-- THE TIED CARD OF 'chaselaw11.HeapFinds'. -/
def heapFindsCard : Claim7 := { stood := { row := heapFindsRow, standIns := [], harness := (true, "89cad0a99b24306b17739309c76a094d448346d7c8813182288f7d14a9890ada"), looks := false }, kinds := [], alts := [], laidByText := true, laidKinds := [.data], laidTests := true, laidLooks := .later }
def HeapFindsCardSaid : Prop := Claim7.holds Tryd.pinned (.plain (OpenSpec.ofChange heapFindsSpec)) heapFindsCard

/-- THE TIED CARD OF 'chaselaw19.SaveBack'. -/
def saveBackCard : Claim7 := { stood := { row := saveBackRow, standIns := [], harness := (true, "89cad0a99b24306b17739309c76a094d448346d7c8813182288f7d14a9890ada"), looks := false }, kinds := [], alts := [], laidByText := true, laidKinds := [.data], laidTests := true, laidLooks := .later }
def SaveBackCardSaid : Prop := Claim7.holds Tryd.pinned (.plain (OpenSpec.ofChange saveBackSpec)) saveBackCard

/-- THE TIED CARD OF 'chaselaw19.SaveFits'. -/
def saveFitsCard : Claim7 := { stood := { row := saveFitsRow, standIns := [], harness := (true, "89cad0a99b24306b17739309c76a094d448346d7c8813182288f7d14a9890ada"), looks := false }, kinds := [], alts := [], laidByText := true, laidKinds := [.data], laidTests := true, laidLooks := .later }
def SaveFitsCardSaid : Prop := Claim7.holds Tryd.pinned (.plain (OpenSpec.ofChange saveFitsSpec)) saveFitsCard

/-- THE TIED CARD OF 'chaselaw19.SaveRuns'. -/
def saveRunsCard : Claim7 := { stood := { row := saveRunsRow, standIns := [], harness := (true, "89cad0a99b24306b17739309c76a094d448346d7c8813182288f7d14a9890ada"), looks := false }, kinds := [], alts := [], laidByText := true, laidKinds := [.data], laidTests := true, laidLooks := .later }
def SaveRunsCardSaid : Prop := Claim7.holds Tryd.pinned (.plain (OpenSpec.ofChange saveRunsSpec)) saveRunsCard

/-- THE TIED CARD OF 'chaselaw18.ResourceKeeps'. -/
def resourceKeepsCard : Claim7 := { stood := { row := resourceKeepsRow, standIns := [], harness := (true, "89cad0a99b24306b17739309c76a094d448346d7c8813182288f7d14a9890ada"), looks := false }, kinds := [], alts := [], laidByText := true, laidKinds := [.data], laidTests := true, laidLooks := .later }
def ResourceKeepsCardSaid : Prop := Claim7.holds Tryd.pinned (.plain (OpenSpec.ofChange resourceKeepsSpec)) resourceKeepsCard

/-- THE SECOND FORM's CARD OF 'chaselaw19.SaveRestores'. -/
def saveRestoresUptoCard : Claim7 := { stood := { row := saveRestoresUptoRow, standIns := [], harness := (true, "89cad0a99b24306b17739309c76a094d448346d7c8813182288f7d14a9890ada"), looks := false }, kinds := [], alts := [], laidByText := true, laidKinds := [.data], laidTests := true, laidLooks := .later }
def SaveRestoresUptoCardSaid : Prop := Claim7.holds Tryd.pinned (.plain (OpenSpec.upto saveRestoresSpec)) saveRestoresUptoCard

/-- THE SECOND FORM's CARD OF 'chaselaw19.SaveNests'. -/
def saveNestsUptoCard : Claim7 := { stood := { row := saveNestsUptoRow, standIns := [], harness := (true, "89cad0a99b24306b17739309c76a094d448346d7c8813182288f7d14a9890ada"), looks := false }, kinds := [], alts := [], laidByText := true, laidKinds := [.data], laidTests := true, laidLooks := .later }
def SaveNestsUptoCardSaid : Prop := Claim7.holds Tryd.pinned (.plain (OpenSpec.upto saveNestsSpec)) saveNestsUptoCard

/-- THE SECOND FORM's CARD OF 'chaselaw11.HeapChecks'. -/
def heapChecksUptoCard : Claim7 := { stood := { row := heapChecksUptoRow, standIns := [], harness := (true, "89cad0a99b24306b17739309c76a094d448346d7c8813182288f7d14a9890ada"), looks := false }, kinds := [], alts := [], laidByText := true, laidKinds := [.data], laidTests := true, laidLooks := .later }
def HeapChecksUptoCardSaid : Prop := Claim7.holds Tryd.pinned (.plain (OpenSpec.upto heapChecksSpec)) heapChecksUptoCard

/-- THE SECOND FORM's CARD OF 'chaselaw11.HeapEquals'. -/
def heapEqualsUptoCard : Claim7 := { stood := { row := heapEqualsUptoRow, standIns := [], harness := (true, "89cad0a99b24306b17739309c76a094d448346d7c8813182288f7d14a9890ada"), looks := false }, kinds := [], alts := [], laidByText := true, laidKinds := [.data], laidTests := true, laidLooks := .later }
def HeapEqualsUptoCardSaid : Prop := Claim7.holds Tryd.pinned (.plain (OpenSpec.upto heapEqualsSpec)) heapEqualsUptoCard

/-- THE SECOND FORM's CARD OF 'chaselaw18.ResourceStays'. -/
def resourceStaysUptoCard : Claim7 := { stood := { row := resourceStaysUptoRow, standIns := [], harness := (true, "89cad0a99b24306b17739309c76a094d448346d7c8813182288f7d14a9890ada"), looks := false }, kinds := [], alts := [], laidByText := true, laidKinds := [.data], laidTests := true, laidLooks := .later }
def ResourceStaysUptoCardSaid : Prop := Claim7.holds Tryd.pinned (.plain (OpenSpec.upto resourceStaysSpec)) resourceStaysUptoCard

/-- THE SECOND FORM's CARD OF 'chaselaw18.ResourceDoes'. -/
def resourceDoesUptoCard : Claim7 := { stood := { row := resourceDoesUptoRow, standIns := [], harness := (true, "89cad0a99b24306b17739309c76a094d448346d7c8813182288f7d14a9890ada"), looks := false }, kinds := [], alts := [], laidByText := true, laidKinds := [.data], laidTests := true, laidLooks := .later }
def ResourceDoesUptoCardSaid : Prop := Claim7.holds Tryd.pinned (.plain (OpenSpec.upto resourceDoesSpec)) resourceDoesUptoCard

/-- THE SECOND FORM's CARD OF 'chaselaw11.HeapKeeps'. -/
def heapKeepsUptoCard : Claim7 := { stood := { row := heapKeepsUptoRow, standIns := [], harness := (true, "89cad0a99b24306b17739309c76a094d448346d7c8813182288f7d14a9890ada"), looks := false }, kinds := [], alts := [], laidByText := true, laidKinds := [.data], laidTests := true, laidLooks := .later }
def HeapKeepsUptoCardSaid : Prop := Claim7.holds Tryd.pinned (.plain (OpenSpec.upto heapKeepsSpec)) heapKeepsUptoCard

/-- THE SECOND FORM's CARD OF 'chaselaw11.HeapFinds'. -/
def heapFindsUptoCard : Claim7 := { stood := { row := heapFindsUptoRow, standIns := [], harness := (true, "89cad0a99b24306b17739309c76a094d448346d7c8813182288f7d14a9890ada"), looks := false }, kinds := [], alts := [], laidByText := true, laidKinds := [.data], laidTests := true, laidLooks := .later }
def HeapFindsUptoCardSaid : Prop := Claim7.holds Tryd.pinned (.plain (OpenSpec.upto heapFindsSpec)) heapFindsUptoCard

/-- THE SECOND FORM's CARD OF 'chaselaw19.SaveBack'. -/
def saveBackUptoCard : Claim7 := { stood := { row := saveBackUptoRow, standIns := [], harness := (true, "89cad0a99b24306b17739309c76a094d448346d7c8813182288f7d14a9890ada"), looks := false }, kinds := [], alts := [], laidByText := true, laidKinds := [.data], laidTests := true, laidLooks := .later }
def SaveBackUptoCardSaid : Prop := Claim7.holds Tryd.pinned (.plain (OpenSpec.upto saveBackSpec)) saveBackUptoCard

/-- THE SECOND FORM's CARD OF 'chaselaw19.SaveFits'. -/
def saveFitsUptoCard : Claim7 := { stood := { row := saveFitsUptoRow, standIns := [], harness := (true, "89cad0a99b24306b17739309c76a094d448346d7c8813182288f7d14a9890ada"), looks := false }, kinds := [], alts := [], laidByText := true, laidKinds := [.data], laidTests := true, laidLooks := .later }
def SaveFitsUptoCardSaid : Prop := Claim7.holds Tryd.pinned (.plain (OpenSpec.upto saveFitsSpec)) saveFitsUptoCard

/-- THE SECOND FORM's CARD OF 'chaselaw19.SaveRuns'. -/
def saveRunsUptoCard : Claim7 := { stood := { row := saveRunsUptoRow, standIns := [], harness := (true, "89cad0a99b24306b17739309c76a094d448346d7c8813182288f7d14a9890ada"), looks := false }, kinds := [], alts := [], laidByText := true, laidKinds := [.data], laidTests := true, laidLooks := .later }
def SaveRunsUptoCardSaid : Prop := Claim7.holds Tryd.pinned (.plain (OpenSpec.upto saveRunsSpec)) saveRunsUptoCard

/-- THE SECOND FORM's CARD OF 'chaselaw18.ResourceKeeps'. -/
def resourceKeepsUptoCard : Claim7 := { stood := { row := resourceKeepsUptoRow, standIns := [], harness := (true, "89cad0a99b24306b17739309c76a094d448346d7c8813182288f7d14a9890ada"), looks := false }, kinds := [], alts := [], laidByText := true, laidKinds := [.data], laidTests := true, laidLooks := .later }
def ResourceKeepsUptoCardSaid : Prop := Claim7.holds Tryd.pinned (.plain (OpenSpec.upto resourceKeepsSpec)) resourceKeepsUptoCard
end Rows
end Go.Proofs.YtngmifmcohmfmaaDoor

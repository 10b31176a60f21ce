/-
  NARROWER THAN 'FOR EVERY INPUT', by the rows' own cells (each row's printed sentence says how): SaveRestores: laid · SaveNests: laid · HeapChecks: laid · HeapEquals: laid · ResourceStays: laid · ResourceDoes: laid · HeapKeeps: laid · HeapFinds: laid · SaveBack: laid · SaveFits: laid · SaveRuns: laid · ResourceKeeps: laid.
  DERIVED. THE GIVEN ROWS OF THIS SEAT. 12 by the template 'for every input the law returns true; each argument reads behind the call as it read before'; 0 by the template 'total and deterministic' (their statements: YtngmifmcohmfmaaDoorTotals.lean).
  GIVEN WITH THE SEED: the statements are not yours to turn. If you find one false, say at which input.
  Laid BY PROGRAM, IN A SANDBOX (cutbox-rows.mjs): the forced cells as the released guide's own fill.sh prints them over the translation 480f835b09b29e23… (all of the seat's roots in one cut). By AI agents, Wed Nov 11 2026. No macro, syntax, notation, axiom, sorry.
-/
import Derived.Test.YtngmifmcohmfmaaDoorChecked
import GoSem.Claim
import GoSem.ClaimJoined
import GoSem.ClaimMapViews
import Derived.JoinedTies
import Derived.KernelRfl
namespace Go.Proofs.YtngmifmcohmfmaaDoor
/- THE CELL 'sum', in the pinned program and in every row, IS THE sha256 OF THE DUMP (.gsa) THAT YtngmifmcohmfmaaDoorProg.lean LOADS. Nothing in Lean hashes anything: it is a label: what it is worth is what the hold of that sum in a sandbox is worth. -/
noncomputable def Tryd.pinned : Pinned := { name := "ytngmifmcohmfmaadoor", sum := "480f835b09b29e23d98c3f25c09db5264cc8f6401f0466b4710b3531e47d4bdf", checked := Tryd.checked }
namespace Rows
def none {H : Type} : Left H := { results := [], args := [] }

/- WHAT THE LISTED PACKAGE-LEVEL VARIABLES READ AS WHEN THE CALL BEGINS. Each datum BY PROGRAM (the guide's laid-datum.mjs) off the statement by which the dump's own 'gosem.cut.vars' lays the variable. In a bare row this is a premise. The card (YtngmifmcohmfmaaDoorCards.lean) ties it to the program's text. -/
def laid_chase_chaseref11_Words {H : Type} : DataW H := .agg [.lit (.string [97]), .lit (.string [98]), .lit (.string [97, 100, 100]), .lit (.string [120]), .lit (.string [102, 111, 111]), .lit (.string []), .lit (.string [112, 111, 112]), .lit (.string [70, 111, 110, 116])]

/-- 'chaselaw19.SaveRestores': WHATEVER THE INPUT: true; the input reads as it did. -/
def saveRestoresSpec : ChangeSpec := { name := "saveRestores", fn := fun _ => fun
  | [d1, d2, d3, d4] => { results := [.lit (.bool true)], args := [d1, d2, d3, d4] }
  | _ => none }
def saveRestoresRow : OpenClaim := { program := "ytngmifmcohmfmaadoor", sum := "480f835b09b29e23d98c3f25c09db5264cc8f6401f0466b4710b3531e47d4bdf", func := "chase/chaselaw19.SaveRestores", spec := "saveRestores", unfollowed := true, recurses := true, named := ["chase/chaseref11.Words"], apart := false, laid := [("chase/chaseref11.Words", laid_chase_chaseref11_Words)] }
def SaveRestoresSaid : Prop := saveRestoresRow.holds Tryd.pinned (OpenSpec.ofChange saveRestoresSpec)

/-- ITS FALSE NEIGHBOUR: 'it returns false'. Refute it at one input. -/
def saveRestoresWrong : ChangeSpec := { name := "saveRestores", fn := fun _ => fun
  | [d1, d2, d3, d4] => { results := [.lit (.bool false)], args := [d1, d2, d3, d4] }
  | _ => none }
def SaveRestoresWrongFalsely : Prop := saveRestoresRow.holds Tryd.pinned (OpenSpec.ofChange saveRestoresWrong)

/-- 'chaselaw19.SaveNests': WHATEVER THE INPUT: true; the input reads as it did. -/
def saveNestsSpec : ChangeSpec := { name := "saveNests", fn := fun _ => fun
  | [d1, d2, d3] => { results := [.lit (.bool true)], args := [d1, d2, d3] }
  | _ => none }
def saveNestsRow : OpenClaim := { program := "ytngmifmcohmfmaadoor", sum := "480f835b09b29e23d98c3f25c09db5264cc8f6401f0466b4710b3531e47d4bdf", func := "chase/chaselaw19.SaveNests", spec := "saveNests", unfollowed := true, recurses := true, named := ["chase/chaseref11.Words"], apart := false, laid := [("chase/chaseref11.Words", laid_chase_chaseref11_Words)] }
def SaveNestsSaid : Prop := saveNestsRow.holds Tryd.pinned (OpenSpec.ofChange saveNestsSpec)

/-- ITS FALSE NEIGHBOUR: 'it returns false'. Refute it at one input. -/
def saveNestsWrong : ChangeSpec := { name := "saveNests", fn := fun _ => fun
  | [d1, d2, d3] => { results := [.lit (.bool false)], args := [d1, d2, d3] }
  | _ => none }
def SaveNestsWrongFalsely : Prop := saveNestsRow.holds Tryd.pinned (OpenSpec.ofChange saveNestsWrong)

/-- 'chaselaw11.HeapChecks': WHATEVER THE INPUT: true; the input reads as it did. -/
def heapChecksSpec : ChangeSpec := { name := "heapChecks", fn := fun _ => fun
  | [d1, d2, d3, d4, d5] => { results := [.lit (.bool true)], args := [d1, d2, d3, d4, d5] }
  | _ => none }
def heapChecksRow : OpenClaim := { program := "ytngmifmcohmfmaadoor", sum := "480f835b09b29e23d98c3f25c09db5264cc8f6401f0466b4710b3531e47d4bdf", func := "chase/chaselaw11.HeapChecks", spec := "heapChecks", unfollowed := true, recurses := true, named := ["chase/chaseref11.Words"], apart := false, laid := [("chase/chaseref11.Words", laid_chase_chaseref11_Words)] }
def HeapChecksSaid : Prop := heapChecksRow.holds Tryd.pinned (OpenSpec.ofChange heapChecksSpec)

/-- ITS FALSE NEIGHBOUR: 'it returns false'. Refute it at one input. -/
def heapChecksWrong : ChangeSpec := { name := "heapChecks", fn := fun _ => fun
  | [d1, d2, d3, d4, d5] => { results := [.lit (.bool false)], args := [d1, d2, d3, d4, d5] }
  | _ => none }
def HeapChecksWrongFalsely : Prop := heapChecksRow.holds Tryd.pinned (OpenSpec.ofChange heapChecksWrong)

/-- 'chaselaw11.HeapEquals': WHATEVER THE INPUT: true; the input reads as it did. -/
def heapEqualsSpec : ChangeSpec := { name := "heapEquals", fn := fun _ => fun
  | [d1, d2, d3, d4, d5] => { results := [.lit (.bool true)], args := [d1, d2, d3, d4, d5] }
  | _ => none }
def heapEqualsRow : OpenClaim := { program := "ytngmifmcohmfmaadoor", sum := "480f835b09b29e23d98c3f25c09db5264cc8f6401f0466b4710b3531e47d4bdf", func := "chase/chaselaw11.HeapEquals", spec := "heapEquals", unfollowed := true, recurses := true, named := ["chase/chaseref11.Words"], apart := false, laid := [("chase/chaseref11.Words", laid_chase_chaseref11_Words)] }
def HeapEqualsSaid : Prop := heapEqualsRow.holds Tryd.pinned (OpenSpec.ofChange heapEqualsSpec)

/-- ITS FALSE NEIGHBOUR: 'it returns false'. Refute it at one input. -/
def heapEqualsWrong : ChangeSpec := { name := "heapEquals", fn := fun _ => fun
  | [d1, d2, d3, d4, d5] => { results := [.lit (.bool false)], args := [d1, d2, d3, d4, d5] }
  | _ => none }
def HeapEqualsWrongFalsely : Prop := heapEqualsRow.holds Tryd.pinned (OpenSpec.ofChange heapEqualsWrong)

/-- 'chaselaw18.ResourceStays': WHATEVER THE INPUT: true; the input reads as it did. -/
def resourceStaysSpec : ChangeSpec := { name := "resourceStays", fn := fun _ => fun
  | [d1, d2, d3, d4] => { results := [.lit (.bool true)], args := [d1, d2, d3, d4] }
  | _ => none }
def resourceStaysRow : OpenClaim := { program := "ytngmifmcohmfmaadoor", sum := "480f835b09b29e23d98c3f25c09db5264cc8f6401f0466b4710b3531e47d4bdf", func := "chase/chaselaw18.ResourceStays", spec := "resourceStays", unfollowed := true, recurses := true, named := ["chase/chaseref11.Words"], apart := false, laid := [("chase/chaseref11.Words", laid_chase_chaseref11_Words)] }
def ResourceStaysSaid : Prop := resourceStaysRow.holds Tryd.pinned (OpenSpec.ofChange resourceStaysSpec)

/-- ITS FALSE NEIGHBOUR: 'it returns false'. Refute it at one input. -/
def resourceStaysWrong : ChangeSpec := { name := "resourceStays", fn := fun _ => fun
  | [d1, d2, d3, d4] => { results := [.lit (.bool false)], args := [d1, d2, d3, d4] }
  | _ => none }
def ResourceStaysWrongFalsely : Prop := resourceStaysRow.holds Tryd.pinned (OpenSpec.ofChange resourceStaysWrong)

/-- 'chaselaw18.ResourceDoes': WHATEVER THE INPUT: true; the input reads as it did. -/
def resourceDoesSpec : ChangeSpec := { name := "resourceDoes", fn := fun _ => fun
  | [d1, d2, d3, d4] => { results := [.lit (.bool true)], args := [d1, d2, d3, d4] }
  | _ => none }
def resourceDoesRow : OpenClaim := { program := "ytngmifmcohmfmaadoor", sum := "480f835b09b29e23d98c3f25c09db5264cc8f6401f0466b4710b3531e47d4bdf", func := "chase/chaselaw18.ResourceDoes", spec := "resourceDoes", unfollowed := true, recurses := true, named := ["chase/chaseref11.Words"], apart := false, laid := [("chase/chaseref11.Words", laid_chase_chaseref11_Words)] }
def ResourceDoesSaid : Prop := resourceDoesRow.holds Tryd.pinned (OpenSpec.ofChange resourceDoesSpec)

/-- ITS FALSE NEIGHBOUR: 'it returns false'. Refute it at one input. -/
def resourceDoesWrong : ChangeSpec := { name := "resourceDoes", fn := fun _ => fun
  | [d1, d2, d3, d4] => { results := [.lit (.bool false)], args := [d1, d2, d3, d4] }
  | _ => none }
def ResourceDoesWrongFalsely : Prop := resourceDoesRow.holds Tryd.pinned (OpenSpec.ofChange resourceDoesWrong)

/-- 'chaselaw11.HeapKeeps': WHATEVER THE INPUT: true; the input reads as it did. -/
def heapKeepsSpec : ChangeSpec := { name := "heapKeeps", fn := fun _ => fun
  | [d1, d2, d3, d4] => { results := [.lit (.bool true)], args := [d1, d2, d3, d4] }
  | _ => none }
def heapKeepsRow : OpenClaim := { program := "ytngmifmcohmfmaadoor", sum := "480f835b09b29e23d98c3f25c09db5264cc8f6401f0466b4710b3531e47d4bdf", func := "chase/chaselaw11.HeapKeeps", spec := "heapKeeps", unfollowed := true, recurses := true, named := ["chase/chaseref11.Words"], apart := false, laid := [("chase/chaseref11.Words", laid_chase_chaseref11_Words)] }
def HeapKeepsSaid : Prop := heapKeepsRow.holds Tryd.pinned (OpenSpec.ofChange heapKeepsSpec)

/-- ITS FALSE NEIGHBOUR: 'it returns false'. Refute it at one input. -/
def heapKeepsWrong : ChangeSpec := { name := "heapKeeps", fn := fun _ => fun
  | [d1, d2, d3, d4] => { results := [.lit (.bool false)], args := [d1, d2, d3, d4] }
  | _ => none }
def HeapKeepsWrongFalsely : Prop := heapKeepsRow.holds Tryd.pinned (OpenSpec.ofChange heapKeepsWrong)

/-- 'chaselaw11.HeapFinds': WHATEVER THE INPUT: true; the input reads as it did. -/
def heapFindsSpec : ChangeSpec := { name := "heapFinds", fn := fun _ => fun
  | [d1, d2] => { results := [.lit (.bool true)], args := [d1, d2] }
  | _ => none }
def heapFindsRow : OpenClaim := { program := "ytngmifmcohmfmaadoor", sum := "480f835b09b29e23d98c3f25c09db5264cc8f6401f0466b4710b3531e47d4bdf", func := "chase/chaselaw11.HeapFinds", spec := "heapFinds", unfollowed := true, recurses := true, named := ["chase/chaseref11.Words"], apart := false, laid := [("chase/chaseref11.Words", laid_chase_chaseref11_Words)] }
def HeapFindsSaid : Prop := heapFindsRow.holds Tryd.pinned (OpenSpec.ofChange heapFindsSpec)

/-- ITS FALSE NEIGHBOUR: 'it returns false'. Refute it at one input. -/
def heapFindsWrong : ChangeSpec := { name := "heapFinds", fn := fun _ => fun
  | [d1, d2] => { results := [.lit (.bool false)], args := [d1, d2] }
  | _ => none }
def HeapFindsWrongFalsely : Prop := heapFindsRow.holds Tryd.pinned (OpenSpec.ofChange heapFindsWrong)

/-- 'chaselaw19.SaveBack': WHATEVER THE INPUT: true; the input reads as it did. -/
def saveBackSpec : ChangeSpec := { name := "saveBack", fn := fun _ => fun
  | [d1, d2, d3] => { results := [.lit (.bool true)], args := [d1, d2, d3] }
  | _ => none }
def saveBackRow : OpenClaim := { program := "ytngmifmcohmfmaadoor", sum := "480f835b09b29e23d98c3f25c09db5264cc8f6401f0466b4710b3531e47d4bdf", func := "chase/chaselaw19.SaveBack", spec := "saveBack", unfollowed := true, recurses := true, named := ["chase/chaseref11.Words"], apart := false, laid := [("chase/chaseref11.Words", laid_chase_chaseref11_Words)] }
def SaveBackSaid : Prop := saveBackRow.holds Tryd.pinned (OpenSpec.ofChange saveBackSpec)

/-- ITS FALSE NEIGHBOUR: 'it returns false'. Refute it at one input. -/
def saveBackWrong : ChangeSpec := { name := "saveBack", fn := fun _ => fun
  | [d1, d2, d3] => { results := [.lit (.bool false)], args := [d1, d2, d3] }
  | _ => none }
def SaveBackWrongFalsely : Prop := saveBackRow.holds Tryd.pinned (OpenSpec.ofChange saveBackWrong)

/-- 'chaselaw19.SaveFits': WHATEVER THE INPUT: true; the input reads as it did. -/
def saveFitsSpec : ChangeSpec := { name := "saveFits", fn := fun _ => fun
  | [d1, d2, d3] => { results := [.lit (.bool true)], args := [d1, d2, d3] }
  | _ => none }
def saveFitsRow : OpenClaim := { program := "ytngmifmcohmfmaadoor", sum := "480f835b09b29e23d98c3f25c09db5264cc8f6401f0466b4710b3531e47d4bdf", func := "chase/chaselaw19.SaveFits", spec := "saveFits", unfollowed := true, recurses := true, named := ["chase/chaseref11.Words"], apart := false, laid := [("chase/chaseref11.Words", laid_chase_chaseref11_Words)] }
def SaveFitsSaid : Prop := saveFitsRow.holds Tryd.pinned (OpenSpec.ofChange saveFitsSpec)

/-- ITS FALSE NEIGHBOUR: 'it returns false'. Refute it at one input. -/
def saveFitsWrong : ChangeSpec := { name := "saveFits", fn := fun _ => fun
  | [d1, d2, d3] => { results := [.lit (.bool false)], args := [d1, d2, d3] }
  | _ => none }
def SaveFitsWrongFalsely : Prop := saveFitsRow.holds Tryd.pinned (OpenSpec.ofChange saveFitsWrong)

/-- 'chaselaw19.SaveRuns': WHATEVER THE INPUT: true; the input reads as it did. -/
def saveRunsSpec : ChangeSpec := { name := "saveRuns", fn := fun _ => fun
  | [d1, d2] => { results := [.lit (.bool true)], args := [d1, d2] }
  | _ => none }
def saveRunsRow : OpenClaim := { program := "ytngmifmcohmfmaadoor", sum := "480f835b09b29e23d98c3f25c09db5264cc8f6401f0466b4710b3531e47d4bdf", func := "chase/chaselaw19.SaveRuns", spec := "saveRuns", unfollowed := true, recurses := true, named := ["chase/chaseref11.Words"], apart := false, laid := [("chase/chaseref11.Words", laid_chase_chaseref11_Words)] }
def SaveRunsSaid : Prop := saveRunsRow.holds Tryd.pinned (OpenSpec.ofChange saveRunsSpec)

/-- ITS FALSE NEIGHBOUR: 'it returns false'. Refute it at one input. -/
def saveRunsWrong : ChangeSpec := { name := "saveRuns", fn := fun _ => fun
  | [d1, d2] => { results := [.lit (.bool false)], args := [d1, d2] }
  | _ => none }
def SaveRunsWrongFalsely : Prop := saveRunsRow.holds Tryd.pinned (OpenSpec.ofChange saveRunsWrong)

/-- 'chaselaw18.ResourceKeeps': WHATEVER THE INPUT: true; the input reads as it did. -/
def resourceKeepsSpec : ChangeSpec := { name := "resourceKeeps", fn := fun _ => fun
  | [d1, d2, d3, d4] => { results := [.lit (.bool true)], args := [d1, d2, d3, d4] }
  | _ => none }
def resourceKeepsRow : OpenClaim := { program := "ytngmifmcohmfmaadoor", sum := "480f835b09b29e23d98c3f25c09db5264cc8f6401f0466b4710b3531e47d4bdf", func := "chase/chaselaw18.ResourceKeeps", spec := "resourceKeeps", unfollowed := true, recurses := true, named := ["chase/chaseref11.Words"], apart := false, laid := [("chase/chaseref11.Words", laid_chase_chaseref11_Words)] }
def ResourceKeepsSaid : Prop := resourceKeepsRow.holds Tryd.pinned (OpenSpec.ofChange resourceKeepsSpec)

/-- ITS FALSE NEIGHBOUR: 'it returns false'. Refute it at one input. -/
def resourceKeepsWrong : ChangeSpec := { name := "resourceKeeps", fn := fun _ => fun
  | [d1, d2, d3, d4] => { results := [.lit (.bool false)], args := [d1, d2, d3, d4] }
  | _ => none }
def ResourceKeepsWrongFalsely : Prop := resourceKeepsRow.holds Tryd.pinned (OpenSpec.ofChange resourceKeepsWrong)

/- THE SECOND FORM. 'bulk': how many values and letters a reading holds, each counted each time it is reached (what is shared counts as often as it is met; a slice's spare places count too). A statement '..UptoSaid' is the law's where the arguments, and the package variables that the reading takes, are together of bulk at most 1048576: NARROWER than '..Said'. Prove '..Said' where nothing that the law and all that it calls make is longer than what came in: it says more and counts as full. Else prove '..UptoSaid'. A law counts once. -/
mutual
def uptoBulk {H : Type} : DataW H → Nat
  | .lit (.string bytes) => bytes.length + 1
  | .lit _ => 1
  | .nil => 1
  | .ptr d => uptoBulk d + 1
  | .slice elems spare => uptoBulkAll elems + uptoBulkAll spare + 1
  | .agg parts => uptoBulkAll parts + 1
  | .iface _ d => uptoBulk d + 1
  | .map entries => uptoBulkEntries entries + 1
  | .held _ => 1
def uptoBulkAll {H : Type} : List (DataW H) → Nat
  | [] => 0
  | d :: r => uptoBulk d + uptoBulkAll r
def uptoBulkEntries {H : Type} : List (Lit × DataW H) → Nat
  | [] => 0
  | x :: r => uptoBulkEntry x + uptoBulkEntries r
def uptoBulkEntry {H : Type} : Lit × DataW H → Nat
  | (.string bytes, d) => bytes.length + uptoBulk d + 1
  | (_, d) => uptoBulk d + 1
 end
def uptoSmall : (H : Type) → List (DataW H) → Bool := fun _ ds => decide (uptoBulkAll ds ≤ 1048576)
def OpenSpec.upto (s : _root_.Go.ChangeSpec) : _root_.Go.OpenSpec := { _root_.Go.OpenSpec.ofChange s with cond := some uptoSmall }

/-- 'chaselaw19.SaveRestores', WHERE WHAT IT READS IS OF BULK AT MOST 1048576: true; the input reads as it did. -/
def saveRestoresUptoRow : OpenClaim := { program := "ytngmifmcohmfmaadoor", sum := "480f835b09b29e23d98c3f25c09db5264cc8f6401f0466b4710b3531e47d4bdf", func := "chase/chaselaw19.SaveRestores", spec := "saveRestores", unfollowed := true, recurses := true, named := ["chase/chaseref11.Words"], apart := false, laid := [("chase/chaseref11.Words", laid_chase_chaseref11_Words)], narrowed := true }
def SaveRestoresUptoSaid : Prop := saveRestoresUptoRow.holds Tryd.pinned (OpenSpec.upto saveRestoresSpec)

/-- 'chaselaw19.SaveNests', WHERE WHAT IT READS IS OF BULK AT MOST 1048576: true; the input reads as it did. -/
def saveNestsUptoRow : OpenClaim := { program := "ytngmifmcohmfmaadoor", sum := "480f835b09b29e23d98c3f25c09db5264cc8f6401f0466b4710b3531e47d4bdf", func := "chase/chaselaw19.SaveNests", spec := "saveNests", unfollowed := true, recurses := true, named := ["chase/chaseref11.Words"], apart := false, laid := [("chase/chaseref11.Words", laid_chase_chaseref11_Words)], narrowed := true }
def SaveNestsUptoSaid : Prop := saveNestsUptoRow.holds Tryd.pinned (OpenSpec.upto saveNestsSpec)

/-- 'chaselaw11.HeapChecks', WHERE WHAT IT READS IS OF BULK AT MOST 1048576: true; the input reads as it did. -/
def heapChecksUptoRow : OpenClaim := { program := "ytngmifmcohmfmaadoor", sum := "480f835b09b29e23d98c3f25c09db5264cc8f6401f0466b4710b3531e47d4bdf", func := "chase/chaselaw11.HeapChecks", spec := "heapChecks", unfollowed := true, recurses := true, named := ["chase/chaseref11.Words"], apart := false, laid := [("chase/chaseref11.Words", laid_chase_chaseref11_Words)], narrowed := true }
def HeapChecksUptoSaid : Prop := heapChecksUptoRow.holds Tryd.pinned (OpenSpec.upto heapChecksSpec)

/-- 'chaselaw11.HeapEquals', WHERE WHAT IT READS IS OF BULK AT MOST 1048576: true; the input reads as it did. -/
def heapEqualsUptoRow : OpenClaim := { program := "ytngmifmcohmfmaadoor", sum := "480f835b09b29e23d98c3f25c09db5264cc8f6401f0466b4710b3531e47d4bdf", func := "chase/chaselaw11.HeapEquals", spec := "heapEquals", unfollowed := true, recurses := true, named := ["chase/chaseref11.Words"], apart := false, laid := [("chase/chaseref11.Words", laid_chase_chaseref11_Words)], narrowed := true }
def HeapEqualsUptoSaid : Prop := heapEqualsUptoRow.holds Tryd.pinned (OpenSpec.upto heapEqualsSpec)

/-- 'chaselaw18.ResourceStays', WHERE WHAT IT READS IS OF BULK AT MOST 1048576: true; the input reads as it did. -/
def resourceStaysUptoRow : OpenClaim := { program := "ytngmifmcohmfmaadoor", sum := "480f835b09b29e23d98c3f25c09db5264cc8f6401f0466b4710b3531e47d4bdf", func := "chase/chaselaw18.ResourceStays", spec := "resourceStays", unfollowed := true, recurses := true, named := ["chase/chaseref11.Words"], apart := false, laid := [("chase/chaseref11.Words", laid_chase_chaseref11_Words)], narrowed := true }
def ResourceStaysUptoSaid : Prop := resourceStaysUptoRow.holds Tryd.pinned (OpenSpec.upto resourceStaysSpec)

/-- 'chaselaw18.ResourceDoes', WHERE WHAT IT READS IS OF BULK AT MOST 1048576: true; the input reads as it did. -/
def resourceDoesUptoRow : OpenClaim := { program := "ytngmifmcohmfmaadoor", sum := "480f835b09b29e23d98c3f25c09db5264cc8f6401f0466b4710b3531e47d4bdf", func := "chase/chaselaw18.ResourceDoes", spec := "resourceDoes", unfollowed := true, recurses := true, named := ["chase/chaseref11.Words"], apart := false, laid := [("chase/chaseref11.Words", laid_chase_chaseref11_Words)], narrowed := true }
def ResourceDoesUptoSaid : Prop := resourceDoesUptoRow.holds Tryd.pinned (OpenSpec.upto resourceDoesSpec)

/-- 'chaselaw11.HeapKeeps', WHERE WHAT IT READS IS OF BULK AT MOST 1048576: true; the input reads as it did. -/
def heapKeepsUptoRow : OpenClaim := { program := "ytngmifmcohmfmaadoor", sum := "480f835b09b29e23d98c3f25c09db5264cc8f6401f0466b4710b3531e47d4bdf", func := "chase/chaselaw11.HeapKeeps", spec := "heapKeeps", unfollowed := true, recurses := true, named := ["chase/chaseref11.Words"], apart := false, laid := [("chase/chaseref11.Words", laid_chase_chaseref11_Words)], narrowed := true }
def HeapKeepsUptoSaid : Prop := heapKeepsUptoRow.holds Tryd.pinned (OpenSpec.upto heapKeepsSpec)

/-- 'chaselaw11.HeapFinds', WHERE WHAT IT READS IS OF BULK AT MOST 1048576: true; the input reads as it did. -/
def heapFindsUptoRow : OpenClaim := { program := "ytngmifmcohmfmaadoor", sum := "480f835b09b29e23d98c3f25c09db5264cc8f6401f0466b4710b3531e47d4bdf", func := "chase/chaselaw11.HeapFinds", spec := "heapFinds", unfollowed := true, recurses := true, named := ["chase/chaseref11.Words"], apart := false, laid := [("chase/chaseref11.Words", laid_chase_chaseref11_Words)], narrowed := true }
def HeapFindsUptoSaid : Prop := heapFindsUptoRow.holds Tryd.pinned (OpenSpec.upto heapFindsSpec)

/-- 'chaselaw19.SaveBack', WHERE WHAT IT READS IS OF BULK AT MOST 1048576: true; the input reads as it did. -/
def saveBackUptoRow : OpenClaim := { program := "ytngmifmcohmfmaadoor", sum := "480f835b09b29e23d98c3f25c09db5264cc8f6401f0466b4710b3531e47d4bdf", func := "chase/chaselaw19.SaveBack", spec := "saveBack", unfollowed := true, recurses := true, named := ["chase/chaseref11.Words"], apart := false, laid := [("chase/chaseref11.Words", laid_chase_chaseref11_Words)], narrowed := true }
def SaveBackUptoSaid : Prop := saveBackUptoRow.holds Tryd.pinned (OpenSpec.upto saveBackSpec)

/-- 'chaselaw19.SaveFits', WHERE WHAT IT READS IS OF BULK AT MOST 1048576: true; the input reads as it did. -/
def saveFitsUptoRow : OpenClaim := { program := "ytngmifmcohmfmaadoor", sum := "480f835b09b29e23d98c3f25c09db5264cc8f6401f0466b4710b3531e47d4bdf", func := "chase/chaselaw19.SaveFits", spec := "saveFits", unfollowed := true, recurses := true, named := ["chase/chaseref11.Words"], apart := false, laid := [("chase/chaseref11.Words", laid_chase_chaseref11_Words)], narrowed := true }
def SaveFitsUptoSaid : Prop := saveFitsUptoRow.holds Tryd.pinned (OpenSpec.upto saveFitsSpec)

/-- 'chaselaw19.SaveRuns', WHERE WHAT IT READS IS OF BULK AT MOST 1048576: true; the input reads as it did. -/
def saveRunsUptoRow : OpenClaim := { program := "ytngmifmcohmfmaadoor", sum := "480f835b09b29e23d98c3f25c09db5264cc8f6401f0466b4710b3531e47d4bdf", func := "chase/chaselaw19.SaveRuns", spec := "saveRuns", unfollowed := true, recurses := true, named := ["chase/chaseref11.Words"], apart := false, laid := [("chase/chaseref11.Words", laid_chase_chaseref11_Words)], narrowed := true }
def SaveRunsUptoSaid : Prop := saveRunsUptoRow.holds Tryd.pinned (OpenSpec.upto saveRunsSpec)

/-- 'chaselaw18.ResourceKeeps', WHERE WHAT IT READS IS OF BULK AT MOST 1048576: true; the input reads as it did. -/
def resourceKeepsUptoRow : OpenClaim := { program := "ytngmifmcohmfmaadoor", sum := "480f835b09b29e23d98c3f25c09db5264cc8f6401f0466b4710b3531e47d4bdf", func := "chase/chaselaw18.ResourceKeeps", spec := "resourceKeeps", unfollowed := true, recurses := true, named := ["chase/chaseref11.Words"], apart := false, laid := [("chase/chaseref11.Words", laid_chase_chaseref11_Words)], narrowed := true }
def ResourceKeepsUptoSaid : Prop := resourceKeepsUptoRow.holds Tryd.pinned (OpenSpec.upto resourceKeepsSpec)

end Rows
end Go.Proofs.YtngmifmcohmfmaaDoor

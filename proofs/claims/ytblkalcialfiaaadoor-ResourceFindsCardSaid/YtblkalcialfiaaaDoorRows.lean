/-
  NARROWER THAN 'FOR EVERY INPUT', by the rows' own cells (each row's printed sentence says how): SaveRestores: laid · SaveNests: laid · HeapChecks: laid · HeapEquals: laid · HeapAlike: laid · ResourceFinds: laid · ResourceStays: laid · ResourceSuits: laid · ResourceDoes: laid · HeapPuts: laid · HeapReads: laid · HeapKeys: laid.
  DERIVED. THE GIVEN ROWS OF THIS SEAT. 12 by the template 'for every input the law returns true; each argument reads behind the call as it read before'; 0 by the template 'total and deterministic' (their statements: YtblkalcialfiaaaDoorTotals.lean).
  GIVEN WITH THE SEED: the statements are not yours to turn. If you find one false, say at which input.
  Laid BY PROGRAM, IN A SANDBOX (cutbox-rows.mjs): the forced cells as the released guide's own fill.sh prints them over the translation ac76fbce038eadd4… (all of the seat's roots in one cut). By AI agents, Wed Nov 11 2026. No macro, syntax, notation, axiom, sorry.
-/
import Derived.Test.YtblkalcialfiaaaDoorChecked
import GoSem.Claim
import GoSem.ClaimJoined
import GoSem.ClaimMapViews
import Derived.JoinedTies
import Derived.KernelRfl
namespace Go.Proofs.YtblkalcialfiaaaDoor
/- THE CELL 'sum', in the pinned program and in every row, IS THE sha256 OF THE DUMP (.gsa) THAT YtblkalcialfiaaaDoorProg.lean LOADS. Nothing in Lean hashes anything: it is a label: what it is worth is what the hold of that sum in a sandbox is worth. -/
noncomputable def Tryd.pinned : Pinned := { name := "ytblkalcialfiaaadoor", sum := "ac76fbce038eadd4d5ddb07107e2597567aab7df51f7dca96df761ce55144b9f", checked := Tryd.checked }
namespace Rows
def none {H : Type} : Left H := { results := [], args := [] }

/- WHAT THE LISTED PACKAGE-LEVEL VARIABLES READ AS WHEN THE CALL BEGINS. Each datum BY PROGRAM (the guide's laid-datum.mjs) off the statement by which the dump's own 'gosem.cut.vars' lays the variable. In a bare row this is a premise. The card (YtblkalcialfiaaaDoorCards.lean) ties it to the program's text. -/
def laid_chase_chaseref11_Words {H : Type} : DataW H := .agg [.lit (.string [97]), .lit (.string [98]), .lit (.string [97, 100, 100]), .lit (.string [120]), .lit (.string [102, 111, 111]), .lit (.string []), .lit (.string [112, 111, 112]), .lit (.string [70, 111, 110, 116])]

/-- 'chaselaw19.SaveRestores': WHATEVER THE INPUT: true; the input reads as it did. -/
def saveRestoresSpec : ChangeSpec := { name := "saveRestores", fn := fun _ => fun
  | [d1, d2, d3, d4] => { results := [.lit (.bool true)], args := [d1, d2, d3, d4] }
  | _ => none }
def saveRestoresRow : OpenClaim := { program := "ytblkalcialfiaaadoor", sum := "ac76fbce038eadd4d5ddb07107e2597567aab7df51f7dca96df761ce55144b9f", func := "chase/chaselaw19.SaveRestores", spec := "saveRestores", unfollowed := true, recurses := true, named := ["chase/chaseref11.Words"], apart := false, laid := [("chase/chaseref11.Words", laid_chase_chaseref11_Words)] }
def SaveRestoresSaid : Prop := saveRestoresRow.holds Tryd.pinned (OpenSpec.ofChange saveRestoresSpec)

/-- ITS FALSE NEIGHBOUR: 'it returns false'. Refute it at one input. -/
def saveRestoresWrong : ChangeSpec := { name := "saveRestores", fn := fun _ => fun
  | [d1, d2, d3, d4] => { results := [.lit (.bool false)], args := [d1, d2, d3, d4] }
  | _ => none }
def SaveRestoresWrongFalsely : Prop := saveRestoresRow.holds Tryd.pinned (OpenSpec.ofChange saveRestoresWrong)

/-- 'chaselaw19.SaveNests': WHATEVER THE INPUT: true; the input reads as it did. -/
def saveNestsSpec : ChangeSpec := { name := "saveNests", fn := fun _ => fun
  | [d1, d2, d3] => { results := [.lit (.bool true)], args := [d1, d2, d3] }
  | _ => none }
def saveNestsRow : OpenClaim := { program := "ytblkalcialfiaaadoor", sum := "ac76fbce038eadd4d5ddb07107e2597567aab7df51f7dca96df761ce55144b9f", func := "chase/chaselaw19.SaveNests", spec := "saveNests", unfollowed := true, recurses := true, named := ["chase/chaseref11.Words"], apart := false, laid := [("chase/chaseref11.Words", laid_chase_chaseref11_Words)] }
def SaveNestsSaid : Prop := saveNestsRow.holds Tryd.pinned (OpenSpec.ofChange saveNestsSpec)

/-- ITS FALSE NEIGHBOUR: 'it returns false'. Refute it at one input. -/
def saveNestsWrong : ChangeSpec := { name := "saveNests", fn := fun _ => fun
  | [d1, d2, d3] => { results := [.lit (.bool false)], args := [d1, d2, d3] }
  | _ => none }
def SaveNestsWrongFalsely : Prop := saveNestsRow.holds Tryd.pinned (OpenSpec.ofChange saveNestsWrong)

/-- 'chaselaw11.HeapChecks': WHATEVER THE INPUT: true; the input reads as it did. -/
def heapChecksSpec : ChangeSpec := { name := "heapChecks", fn := fun _ => fun
  | [d1, d2, d3, d4, d5] => { results := [.lit (.bool true)], args := [d1, d2, d3, d4, d5] }
  | _ => none }
def heapChecksRow : OpenClaim := { program := "ytblkalcialfiaaadoor", sum := "ac76fbce038eadd4d5ddb07107e2597567aab7df51f7dca96df761ce55144b9f", func := "chase/chaselaw11.HeapChecks", spec := "heapChecks", unfollowed := true, recurses := true, named := ["chase/chaseref11.Words"], apart := false, laid := [("chase/chaseref11.Words", laid_chase_chaseref11_Words)] }
def HeapChecksSaid : Prop := heapChecksRow.holds Tryd.pinned (OpenSpec.ofChange heapChecksSpec)

/-- ITS FALSE NEIGHBOUR: 'it returns false'. Refute it at one input. -/
def heapChecksWrong : ChangeSpec := { name := "heapChecks", fn := fun _ => fun
  | [d1, d2, d3, d4, d5] => { results := [.lit (.bool false)], args := [d1, d2, d3, d4, d5] }
  | _ => none }
def HeapChecksWrongFalsely : Prop := heapChecksRow.holds Tryd.pinned (OpenSpec.ofChange heapChecksWrong)

/-- 'chaselaw11.HeapEquals': WHATEVER THE INPUT: true; the input reads as it did. -/
def heapEqualsSpec : ChangeSpec := { name := "heapEquals", fn := fun _ => fun
  | [d1, d2, d3, d4, d5] => { results := [.lit (.bool true)], args := [d1, d2, d3, d4, d5] }
  | _ => none }
def heapEqualsRow : OpenClaim := { program := "ytblkalcialfiaaadoor", sum := "ac76fbce038eadd4d5ddb07107e2597567aab7df51f7dca96df761ce55144b9f", func := "chase/chaselaw11.HeapEquals", spec := "heapEquals", unfollowed := true, recurses := true, named := ["chase/chaseref11.Words"], apart := false, laid := [("chase/chaseref11.Words", laid_chase_chaseref11_Words)] }
def HeapEqualsSaid : Prop := heapEqualsRow.holds Tryd.pinned (OpenSpec.ofChange heapEqualsSpec)

/-- ITS FALSE NEIGHBOUR: 'it returns false'. Refute it at one input. -/
def heapEqualsWrong : ChangeSpec := { name := "heapEquals", fn := fun _ => fun
  | [d1, d2, d3, d4, d5] => { results := [.lit (.bool false)], args := [d1, d2, d3, d4, d5] }
  | _ => none }
def HeapEqualsWrongFalsely : Prop := heapEqualsRow.holds Tryd.pinned (OpenSpec.ofChange heapEqualsWrong)

/-- 'chaselaw11.HeapAlike': WHATEVER THE INPUT: true; the input reads as it did. -/
def heapAlikeSpec : ChangeSpec := { name := "heapAlike", fn := fun _ => fun
  | [d1, d2] => { results := [.lit (.bool true)], args := [d1, d2] }
  | _ => none }
def heapAlikeRow : OpenClaim := { program := "ytblkalcialfiaaadoor", sum := "ac76fbce038eadd4d5ddb07107e2597567aab7df51f7dca96df761ce55144b9f", func := "chase/chaselaw11.HeapAlike", spec := "heapAlike", unfollowed := true, recurses := true, named := ["chase/chaseref11.Words"], apart := false, laid := [("chase/chaseref11.Words", laid_chase_chaseref11_Words)] }
def HeapAlikeSaid : Prop := heapAlikeRow.holds Tryd.pinned (OpenSpec.ofChange heapAlikeSpec)

/-- ITS FALSE NEIGHBOUR: 'it returns false'. Refute it at one input. -/
def heapAlikeWrong : ChangeSpec := { name := "heapAlike", fn := fun _ => fun
  | [d1, d2] => { results := [.lit (.bool false)], args := [d1, d2] }
  | _ => none }
def HeapAlikeWrongFalsely : Prop := heapAlikeRow.holds Tryd.pinned (OpenSpec.ofChange heapAlikeWrong)

/-- 'chaselaw18.ResourceFinds': WHATEVER THE INPUT: true; the input reads as it did. -/
def resourceFindsSpec : ChangeSpec := { name := "resourceFinds", fn := fun _ => fun
  | [d1, d2, d3, d4] => { results := [.lit (.bool true)], args := [d1, d2, d3, d4] }
  | _ => none }
def resourceFindsRow : OpenClaim := { program := "ytblkalcialfiaaadoor", sum := "ac76fbce038eadd4d5ddb07107e2597567aab7df51f7dca96df761ce55144b9f", func := "chase/chaselaw18.ResourceFinds", spec := "resourceFinds", unfollowed := true, recurses := true, named := ["chase/chaseref11.Words"], apart := false, laid := [("chase/chaseref11.Words", laid_chase_chaseref11_Words)] }
def ResourceFindsSaid : Prop := resourceFindsRow.holds Tryd.pinned (OpenSpec.ofChange resourceFindsSpec)

/-- ITS FALSE NEIGHBOUR: 'it returns false'. Refute it at one input. -/
def resourceFindsWrong : ChangeSpec := { name := "resourceFinds", fn := fun _ => fun
  | [d1, d2, d3, d4] => { results := [.lit (.bool false)], args := [d1, d2, d3, d4] }
  | _ => none }
def ResourceFindsWrongFalsely : Prop := resourceFindsRow.holds Tryd.pinned (OpenSpec.ofChange resourceFindsWrong)

/-- 'chaselaw18.ResourceStays': WHATEVER THE INPUT: true; the input reads as it did. -/
def resourceStaysSpec : ChangeSpec := { name := "resourceStays", fn := fun _ => fun
  | [d1, d2, d3, d4] => { results := [.lit (.bool true)], args := [d1, d2, d3, d4] }
  | _ => none }
def resourceStaysRow : OpenClaim := { program := "ytblkalcialfiaaadoor", sum := "ac76fbce038eadd4d5ddb07107e2597567aab7df51f7dca96df761ce55144b9f", func := "chase/chaselaw18.ResourceStays", spec := "resourceStays", unfollowed := true, recurses := true, named := ["chase/chaseref11.Words"], apart := false, laid := [("chase/chaseref11.Words", laid_chase_chaseref11_Words)] }
def ResourceStaysSaid : Prop := resourceStaysRow.holds Tryd.pinned (OpenSpec.ofChange resourceStaysSpec)

/-- ITS FALSE NEIGHBOUR: 'it returns false'. Refute it at one input. -/
def resourceStaysWrong : ChangeSpec := { name := "resourceStays", fn := fun _ => fun
  | [d1, d2, d3, d4] => { results := [.lit (.bool false)], args := [d1, d2, d3, d4] }
  | _ => none }
def ResourceStaysWrongFalsely : Prop := resourceStaysRow.holds Tryd.pinned (OpenSpec.ofChange resourceStaysWrong)

/-- 'chaselaw18.ResourceSuits': WHATEVER THE INPUT: true; the input reads as it did. -/
def resourceSuitsSpec : ChangeSpec := { name := "resourceSuits", fn := fun _ => fun
  | [d1, d2, d3] => { results := [.lit (.bool true)], args := [d1, d2, d3] }
  | _ => none }
def resourceSuitsRow : OpenClaim := { program := "ytblkalcialfiaaadoor", sum := "ac76fbce038eadd4d5ddb07107e2597567aab7df51f7dca96df761ce55144b9f", func := "chase/chaselaw18.ResourceSuits", spec := "resourceSuits", unfollowed := true, recurses := true, named := ["chase/chaseref11.Words"], apart := false, laid := [("chase/chaseref11.Words", laid_chase_chaseref11_Words)] }
def ResourceSuitsSaid : Prop := resourceSuitsRow.holds Tryd.pinned (OpenSpec.ofChange resourceSuitsSpec)

/-- ITS FALSE NEIGHBOUR: 'it returns false'. Refute it at one input. -/
def resourceSuitsWrong : ChangeSpec := { name := "resourceSuits", fn := fun _ => fun
  | [d1, d2, d3] => { results := [.lit (.bool false)], args := [d1, d2, d3] }
  | _ => none }
def ResourceSuitsWrongFalsely : Prop := resourceSuitsRow.holds Tryd.pinned (OpenSpec.ofChange resourceSuitsWrong)

/-- 'chaselaw18.ResourceDoes': WHATEVER THE INPUT: true; the input reads as it did. -/
def resourceDoesSpec : ChangeSpec := { name := "resourceDoes", fn := fun _ => fun
  | [d1, d2, d3, d4] => { results := [.lit (.bool true)], args := [d1, d2, d3, d4] }
  | _ => none }
def resourceDoesRow : OpenClaim := { program := "ytblkalcialfiaaadoor", sum := "ac76fbce038eadd4d5ddb07107e2597567aab7df51f7dca96df761ce55144b9f", func := "chase/chaselaw18.ResourceDoes", spec := "resourceDoes", unfollowed := true, recurses := true, named := ["chase/chaseref11.Words"], apart := false, laid := [("chase/chaseref11.Words", laid_chase_chaseref11_Words)] }
def ResourceDoesSaid : Prop := resourceDoesRow.holds Tryd.pinned (OpenSpec.ofChange resourceDoesSpec)

/-- ITS FALSE NEIGHBOUR: 'it returns false'. Refute it at one input. -/
def resourceDoesWrong : ChangeSpec := { name := "resourceDoes", fn := fun _ => fun
  | [d1, d2, d3, d4] => { results := [.lit (.bool false)], args := [d1, d2, d3, d4] }
  | _ => none }
def ResourceDoesWrongFalsely : Prop := resourceDoesRow.holds Tryd.pinned (OpenSpec.ofChange resourceDoesWrong)

/-- 'chaselaw11.HeapPuts': WHATEVER THE INPUT: true; the input reads as it did. -/
def heapPutsSpec : ChangeSpec := { name := "heapPuts", fn := fun _ => fun
  | [d1, d2, d3, d4, d5, d6, d7] => { results := [.lit (.bool true)], args := [d1, d2, d3, d4, d5, d6, d7] }
  | _ => none }
def heapPutsRow : OpenClaim := { program := "ytblkalcialfiaaadoor", sum := "ac76fbce038eadd4d5ddb07107e2597567aab7df51f7dca96df761ce55144b9f", func := "chase/chaselaw11.HeapPuts", spec := "heapPuts", unfollowed := true, recurses := true, named := ["chase/chaseref11.Words"], apart := false, laid := [("chase/chaseref11.Words", laid_chase_chaseref11_Words)] }
def HeapPutsSaid : Prop := heapPutsRow.holds Tryd.pinned (OpenSpec.ofChange heapPutsSpec)

/-- ITS FALSE NEIGHBOUR: 'it returns false'. Refute it at one input. -/
def heapPutsWrong : ChangeSpec := { name := "heapPuts", fn := fun _ => fun
  | [d1, d2, d3, d4, d5, d6, d7] => { results := [.lit (.bool false)], args := [d1, d2, d3, d4, d5, d6, d7] }
  | _ => none }
def HeapPutsWrongFalsely : Prop := heapPutsRow.holds Tryd.pinned (OpenSpec.ofChange heapPutsWrong)

/-- 'chaselaw11.HeapReads': WHATEVER THE INPUT: true; the input reads as it did. -/
def heapReadsSpec : ChangeSpec := { name := "heapReads", fn := fun _ => fun
  | [d1, d2, d3, d4, d5, d6] => { results := [.lit (.bool true)], args := [d1, d2, d3, d4, d5, d6] }
  | _ => none }
def heapReadsRow : OpenClaim := { program := "ytblkalcialfiaaadoor", sum := "ac76fbce038eadd4d5ddb07107e2597567aab7df51f7dca96df761ce55144b9f", func := "chase/chaselaw11.HeapReads", spec := "heapReads", unfollowed := true, recurses := true, named := ["chase/chaseref11.Words"], apart := false, laid := [("chase/chaseref11.Words", laid_chase_chaseref11_Words)] }
def HeapReadsSaid : Prop := heapReadsRow.holds Tryd.pinned (OpenSpec.ofChange heapReadsSpec)

/-- ITS FALSE NEIGHBOUR: 'it returns false'. Refute it at one input. -/
def heapReadsWrong : ChangeSpec := { name := "heapReads", fn := fun _ => fun
  | [d1, d2, d3, d4, d5, d6] => { results := [.lit (.bool false)], args := [d1, d2, d3, d4, d5, d6] }
  | _ => none }
def HeapReadsWrongFalsely : Prop := heapReadsRow.holds Tryd.pinned (OpenSpec.ofChange heapReadsWrong)

/-- 'chaselaw11.HeapKeys': WHATEVER THE INPUT: true; the input reads as it did. -/
def heapKeysSpec : ChangeSpec := { name := "heapKeys", fn := fun _ => fun
  | [d1, d2, d3, d4, d5] => { results := [.lit (.bool true)], args := [d1, d2, d3, d4, d5] }
  | _ => none }
def heapKeysRow : OpenClaim := { program := "ytblkalcialfiaaadoor", sum := "ac76fbce038eadd4d5ddb07107e2597567aab7df51f7dca96df761ce55144b9f", func := "chase/chaselaw11.HeapKeys", spec := "heapKeys", unfollowed := true, recurses := true, named := ["chase/chaseref11.Words"], apart := false, laid := [("chase/chaseref11.Words", laid_chase_chaseref11_Words)] }
def HeapKeysSaid : Prop := heapKeysRow.holds Tryd.pinned (OpenSpec.ofChange heapKeysSpec)

/-- ITS FALSE NEIGHBOUR: 'it returns false'. Refute it at one input. -/
def heapKeysWrong : ChangeSpec := { name := "heapKeys", fn := fun _ => fun
  | [d1, d2, d3, d4, d5] => { results := [.lit (.bool false)], args := [d1, d2, d3, d4, d5] }
  | _ => none }
def HeapKeysWrongFalsely : Prop := heapKeysRow.holds Tryd.pinned (OpenSpec.ofChange heapKeysWrong)

/- THE SECOND FORM. 'bulk': how many values and letters a reading holds, each counted each time it is reached (what is shared counts as often as it is met; a slice's spare places count too). A statement '..UptoSaid' is the law's where the arguments, and the package variables that the reading takes, are together of bulk at most 1048576: NARROWER than '..Said'. Prove '..Said' where nothing that the law and all that it calls make is longer than what came in: it says more and counts as full. Else prove '..UptoSaid'. A law counts once. -/
mutual
def uptoBulk {H : Type} : DataW H → Nat
  | .lit (.string bytes) => bytes.length + 1
  | .lit _ => 1
  | .nil => 1
  | .ptr d => uptoBulk d + 1
  | .slice elems spare => uptoBulkAll elems + uptoBulkAll spare + 1
  | .agg parts => uptoBulkAll parts + 1
  | .iface _ d => uptoBulk d + 1
  | .map entries => uptoBulkEntries entries + 1
  | .held _ => 1
def uptoBulkAll {H : Type} : List (DataW H) → Nat
  | [] => 0
  | d :: r => uptoBulk d + uptoBulkAll r
def uptoBulkEntries {H : Type} : List (Lit × DataW H) → Nat
  | [] => 0
  | x :: r => uptoBulkEntry x + uptoBulkEntries r
def uptoBulkEntry {H : Type} : Lit × DataW H → Nat
  | (.string bytes, d) => bytes.length + uptoBulk d + 1
  | (_, d) => uptoBulk d + 1
 end
def uptoSmall : (H : Type) → List (DataW H) → Bool := fun _ ds => decide (uptoBulkAll ds ≤ 1048576)
def OpenSpec.upto (s : _root_.Go.ChangeSpec) : _root_.Go.OpenSpec := { _root_.Go.OpenSpec.ofChange s with cond := some uptoSmall }

/-- 'chaselaw19.SaveRestores', WHERE WHAT IT READS IS OF BULK AT MOST 1048576: true; the input reads as it did. -/
def saveRestoresUptoRow : OpenClaim := { program := "ytblkalcialfiaaadoor", sum := "ac76fbce038eadd4d5ddb07107e2597567aab7df51f7dca96df761ce55144b9f", func := "chase/chaselaw19.SaveRestores", spec := "saveRestores", unfollowed := true, recurses := true, named := ["chase/chaseref11.Words"], apart := false, laid := [("chase/chaseref11.Words", laid_chase_chaseref11_Words)], narrowed := true }
def SaveRestoresUptoSaid : Prop := saveRestoresUptoRow.holds Tryd.pinned (OpenSpec.upto saveRestoresSpec)

/-- 'chaselaw19.SaveNests', WHERE WHAT IT READS IS OF BULK AT MOST 1048576: true; the input reads as it did. -/
def saveNestsUptoRow : OpenClaim := { program := "ytblkalcialfiaaadoor", sum := "ac76fbce038eadd4d5ddb07107e2597567aab7df51f7dca96df761ce55144b9f", func := "chase/chaselaw19.SaveNests", spec := "saveNests", unfollowed := true, recurses := true, named := ["chase/chaseref11.Words"], apart := false, laid := [("chase/chaseref11.Words", laid_chase_chaseref11_Words)], narrowed := true }
def SaveNestsUptoSaid : Prop := saveNestsUptoRow.holds Tryd.pinned (OpenSpec.upto saveNestsSpec)

/-- 'chaselaw11.HeapChecks', WHERE WHAT IT READS IS OF BULK AT MOST 1048576: true; the input reads as it did. -/
def heapChecksUptoRow : OpenClaim := { program := "ytblkalcialfiaaadoor", sum := "ac76fbce038eadd4d5ddb07107e2597567aab7df51f7dca96df761ce55144b9f", func := "chase/chaselaw11.HeapChecks", spec := "heapChecks", unfollowed := true, recurses := true, named := ["chase/chaseref11.Words"], apart := false, laid := [("chase/chaseref11.Words", laid_chase_chaseref11_Words)], narrowed := true }
def HeapChecksUptoSaid : Prop := heapChecksUptoRow.holds Tryd.pinned (OpenSpec.upto heapChecksSpec)

/-- 'chaselaw11.HeapEquals', WHERE WHAT IT READS IS OF BULK AT MOST 1048576: true; the input reads as it did. -/
def heapEqualsUptoRow : OpenClaim := { program := "ytblkalcialfiaaadoor", sum := "ac76fbce038eadd4d5ddb07107e2597567aab7df51f7dca96df761ce55144b9f", func := "chase/chaselaw11.HeapEquals", spec := "heapEquals", unfollowed := true, recurses := true, named := ["chase/chaseref11.Words"], apart := false, laid := [("chase/chaseref11.Words", laid_chase_chaseref11_Words)], narrowed := true }
def HeapEqualsUptoSaid : Prop := heapEqualsUptoRow.holds Tryd.pinned (OpenSpec.upto heapEqualsSpec)

/-- 'chaselaw11.HeapAlike', WHERE WHAT IT READS IS OF BULK AT MOST 1048576: true; the input reads as it did. -/
def heapAlikeUptoRow : OpenClaim := { program := "ytblkalcialfiaaadoor", sum := "ac76fbce038eadd4d5ddb07107e2597567aab7df51f7dca96df761ce55144b9f", func := "chase/chaselaw11.HeapAlike", spec := "heapAlike", unfollowed := true, recurses := true, named := ["chase/chaseref11.Words"], apart := false, laid := [("chase/chaseref11.Words", laid_chase_chaseref11_Words)], narrowed := true }
def HeapAlikeUptoSaid : Prop := heapAlikeUptoRow.holds Tryd.pinned (OpenSpec.upto heapAlikeSpec)

/-- 'chaselaw18.ResourceFinds', WHERE WHAT IT READS IS OF BULK AT MOST 1048576: true; the input reads as it did. -/
def resourceFindsUptoRow : OpenClaim := { program := "ytblkalcialfiaaadoor", sum := "ac76fbce038eadd4d5ddb07107e2597567aab7df51f7dca96df761ce55144b9f", func := "chase/chaselaw18.ResourceFinds", spec := "resourceFinds", unfollowed := true, recurses := true, named := ["chase/chaseref11.Words"], apart := false, laid := [("chase/chaseref11.Words", laid_chase_chaseref11_Words)], narrowed := true }
def ResourceFindsUptoSaid : Prop := resourceFindsUptoRow.holds Tryd.pinned (OpenSpec.upto resourceFindsSpec)

/-- 'chaselaw18.ResourceStays', WHERE WHAT IT READS IS OF BULK AT MOST 1048576: true; the input reads as it did. -/
def resourceStaysUptoRow : OpenClaim := { program := "ytblkalcialfiaaadoor", sum := "ac76fbce038eadd4d5ddb07107e2597567aab7df51f7dca96df761ce55144b9f", func := "chase/chaselaw18.ResourceStays", spec := "resourceStays", unfollowed := true, recurses := true, named := ["chase/chaseref11.Words"], apart := false, laid := [("chase/chaseref11.Words", laid_chase_chaseref11_Words)], narrowed := true }
def ResourceStaysUptoSaid : Prop := resourceStaysUptoRow.holds Tryd.pinned (OpenSpec.upto resourceStaysSpec)

/-- 'chaselaw18.ResourceSuits', WHERE WHAT IT READS IS OF BULK AT MOST 1048576: true; the input reads as it did. -/
def resourceSuitsUptoRow : OpenClaim := { program := "ytblkalcialfiaaadoor", sum := "ac76fbce038eadd4d5ddb07107e2597567aab7df51f7dca96df761ce55144b9f", func := "chase/chaselaw18.ResourceSuits", spec := "resourceSuits", unfollowed := true, recurses := true, named := ["chase/chaseref11.Words"], apart := false, laid := [("chase/chaseref11.Words", laid_chase_chaseref11_Words)], narrowed := true }
def ResourceSuitsUptoSaid : Prop := resourceSuitsUptoRow.holds Tryd.pinned (OpenSpec.upto resourceSuitsSpec)

/-- 'chaselaw18.ResourceDoes', WHERE WHAT IT READS IS OF BULK AT MOST 1048576: true; the input reads as it did. -/
def resourceDoesUptoRow : OpenClaim := { program := "ytblkalcialfiaaadoor", sum := "ac76fbce038eadd4d5ddb07107e2597567aab7df51f7dca96df761ce55144b9f", func := "chase/chaselaw18.ResourceDoes", spec := "resourceDoes", unfollowed := true, recurses := true, named := ["chase/chaseref11.Words"], apart := false, laid := [("chase/chaseref11.Words", laid_chase_chaseref11_Words)], narrowed := true }
def ResourceDoesUptoSaid : Prop := resourceDoesUptoRow.holds Tryd.pinned (OpenSpec.upto resourceDoesSpec)

/-- 'chaselaw11.HeapPuts', WHERE WHAT IT READS IS OF BULK AT MOST 1048576: true; the input reads as it did. -/
def heapPutsUptoRow : OpenClaim := { program := "ytblkalcialfiaaadoor", sum := "ac76fbce038eadd4d5ddb07107e2597567aab7df51f7dca96df761ce55144b9f", func := "chase/chaselaw11.HeapPuts", spec := "heapPuts", unfollowed := true, recurses := true, named := ["chase/chaseref11.Words"], apart := false, laid := [("chase/chaseref11.Words", laid_chase_chaseref11_Words)], narrowed := true }
def HeapPutsUptoSaid : Prop := heapPutsUptoRow.holds Tryd.pinned (OpenSpec.upto heapPutsSpec)

/-- 'chaselaw11.HeapReads', WHERE WHAT IT READS IS OF BULK AT MOST 1048576: true; the input reads as it did. -/
def heapReadsUptoRow : OpenClaim := { program := "ytblkalcialfiaaadoor", sum := "ac76fbce038eadd4d5ddb07107e2597567aab7df51f7dca96df761ce55144b9f", func := "chase/chaselaw11.HeapReads", spec := "heapReads", unfollowed := true, recurses := true, named := ["chase/chaseref11.Words"], apart := false, laid := [("chase/chaseref11.Words", laid_chase_chaseref11_Words)], narrowed := true }
def HeapReadsUptoSaid : Prop := heapReadsUptoRow.holds Tryd.pinned (OpenSpec.upto heapReadsSpec)

/-- 'chaselaw11.HeapKeys', WHERE WHAT IT READS IS OF BULK AT MOST 1048576: true; the input reads as it did. -/
def heapKeysUptoRow : OpenClaim := { program := "ytblkalcialfiaaadoor", sum := "ac76fbce038eadd4d5ddb07107e2597567aab7df51f7dca96df761ce55144b9f", func := "chase/chaselaw11.HeapKeys", spec := "heapKeys", unfollowed := true, recurses := true, named := ["chase/chaseref11.Words"], apart := false, laid := [("chase/chaseref11.Words", laid_chase_chaseref11_Words)], narrowed := true }
def HeapKeysUptoSaid : Prop := heapKeysUptoRow.holds Tryd.pinned (OpenSpec.upto heapKeysSpec)

end Rows
end Go.Proofs.YtblkalcialfiaaaDoor

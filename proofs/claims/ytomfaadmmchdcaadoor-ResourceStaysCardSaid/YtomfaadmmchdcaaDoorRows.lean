/-
  NARROWER THAN 'FOR EVERY INPUT', by the rows' own cells (each row's printed sentence says how): HeapEquals: laid · ResourceStays: laid · ResourceDoes: laid.
  DERIVED. THE GIVEN ROWS OF THIS SEAT. 3 by the template 'for every input the law returns true; each argument reads behind the call as it read before'; 0 by the template 'total and deterministic' (their statements: YtomfaadmmchdcaaDoorTotals.lean).
  GIVEN WITH THE SEED: the statements are not yours to turn. If you find one false, say at which input.
  Laid BY PROGRAM, IN A SANDBOX (cutbox-rows.mjs): the forced cells as the released guide's own fill.sh prints them over the translation 7929e3b340f944fe… (all of the seat's roots in one cut). By AI agents, Wed Nov 11 2026. No macro, syntax, notation, axiom, sorry.
-/
import Derived.Test.YtomfaadmmchdcaaDoorChecked
import GoSem.Claim
import GoSem.ClaimJoined
import GoSem.ClaimMapViews
import Derived.JoinedTies
import Derived.KernelRfl
namespace Go.Proofs.YtomfaadmmchdcaaDoor
/- THE CELL 'sum', in the pinned program and in every row, IS THE sha256 OF THE DUMP (.gsa) THAT YtomfaadmmchdcaaDoorProg.lean LOADS. Nothing in Lean hashes anything: it is a label: what it is worth is what the hold of that sum in a sandbox is worth. -/
noncomputable def Tryd.pinned : Pinned := { name := "ytomfaadmmchdcaadoor", sum := "7929e3b340f944fe9afa927d186a9d3ef192915e99fd04978ef223444fb059c4", checked := Tryd.checked }
namespace Rows
def none {H : Type} : Left H := { results := [], args := [] }

/- WHAT THE LISTED PACKAGE-LEVEL VARIABLES READ AS WHEN THE CALL BEGINS. Each datum BY PROGRAM (the guide's laid-datum.mjs) off the statement by which the dump's own 'gosem.cut.vars' lays the variable. In a bare row this is a premise. The card (YtomfaadmmchdcaaDoorCards.lean) ties it to the program's text. -/
def laid_chase_chaseref11_Words {H : Type} : DataW H := .agg [.lit (.string [97]), .lit (.string [98]), .lit (.string [97, 100, 100]), .lit (.string [120]), .lit (.string [102, 111, 111]), .lit (.string []), .lit (.string [112, 111, 112]), .lit (.string [70, 111, 110, 116])]

/-- 'chaselaw11.HeapEquals': WHATEVER THE INPUT: true; the input reads as it did. -/
def heapEqualsSpec : ChangeSpec := { name := "heapEquals", fn := fun _ => fun
  | [d1, d2, d3, d4, d5] => { results := [.lit (.bool true)], args := [d1, d2, d3, d4, d5] }
  | _ => none }
def heapEqualsRow : OpenClaim := { program := "ytomfaadmmchdcaadoor", sum := "7929e3b340f944fe9afa927d186a9d3ef192915e99fd04978ef223444fb059c4", func := "chase/chaselaw11.HeapEquals", spec := "heapEquals", unfollowed := true, recurses := true, named := ["chase/chaseref11.Words"], apart := false, laid := [("chase/chaseref11.Words", laid_chase_chaseref11_Words)] }
def HeapEqualsSaid : Prop := heapEqualsRow.holds Tryd.pinned (OpenSpec.ofChange heapEqualsSpec)

/-- ITS FALSE NEIGHBOUR: 'it returns false'. Refute it at one input. -/
def heapEqualsWrong : ChangeSpec := { name := "heapEquals", fn := fun _ => fun
  | [d1, d2, d3, d4, d5] => { results := [.lit (.bool false)], args := [d1, d2, d3, d4, d5] }
  | _ => none }
def HeapEqualsWrongFalsely : Prop := heapEqualsRow.holds Tryd.pinned (OpenSpec.ofChange heapEqualsWrong)

/-- 'chaselaw18.ResourceStays': WHATEVER THE INPUT: true; the input reads as it did. -/
def resourceStaysSpec : ChangeSpec := { name := "resourceStays", fn := fun _ => fun
  | [d1, d2, d3, d4] => { results := [.lit (.bool true)], args := [d1, d2, d3, d4] }
  | _ => none }
def resourceStaysRow : OpenClaim := { program := "ytomfaadmmchdcaadoor", sum := "7929e3b340f944fe9afa927d186a9d3ef192915e99fd04978ef223444fb059c4", func := "chase/chaselaw18.ResourceStays", spec := "resourceStays", unfollowed := true, recurses := true, named := ["chase/chaseref11.Words"], apart := false, laid := [("chase/chaseref11.Words", laid_chase_chaseref11_Words)] }
def ResourceStaysSaid : Prop := resourceStaysRow.holds Tryd.pinned (OpenSpec.ofChange resourceStaysSpec)

/-- ITS FALSE NEIGHBOUR: 'it returns false'. Refute it at one input. -/
def resourceStaysWrong : ChangeSpec := { name := "resourceStays", fn := fun _ => fun
  | [d1, d2, d3, d4] => { results := [.lit (.bool false)], args := [d1, d2, d3, d4] }
  | _ => none }
def ResourceStaysWrongFalsely : Prop := resourceStaysRow.holds Tryd.pinned (OpenSpec.ofChange resourceStaysWrong)

/-- 'chaselaw18.ResourceDoes': WHATEVER THE INPUT: true; the input reads as it did. -/
def resourceDoesSpec : ChangeSpec := { name := "resourceDoes", fn := fun _ => fun
  | [d1, d2, d3, d4] => { results := [.lit (.bool true)], args := [d1, d2, d3, d4] }
  | _ => none }
def resourceDoesRow : OpenClaim := { program := "ytomfaadmmchdcaadoor", sum := "7929e3b340f944fe9afa927d186a9d3ef192915e99fd04978ef223444fb059c4", func := "chase/chaselaw18.ResourceDoes", spec := "resourceDoes", unfollowed := true, recurses := true, named := ["chase/chaseref11.Words"], apart := false, laid := [("chase/chaseref11.Words", laid_chase_chaseref11_Words)] }
def ResourceDoesSaid : Prop := resourceDoesRow.holds Tryd.pinned (OpenSpec.ofChange resourceDoesSpec)

/-- ITS FALSE NEIGHBOUR: 'it returns false'. Refute it at one input. -/
def resourceDoesWrong : ChangeSpec := { name := "resourceDoes", fn := fun _ => fun
  | [d1, d2, d3, d4] => { results := [.lit (.bool false)], args := [d1, d2, d3, d4] }
  | _ => none }
def ResourceDoesWrongFalsely : Prop := resourceDoesRow.holds Tryd.pinned (OpenSpec.ofChange resourceDoesWrong)

/- THE SECOND FORM. 'bulk': how many values and letters a reading holds, each counted each time it is reached (what is shared counts as often as it is met; a slice's spare places count too). A statement '..UptoSaid' is the law's where the arguments, and the package variables that the reading takes, are together of bulk at most 1048576: NARROWER than '..Said'. Prove '..Said' where nothing that the law and all that it calls make is longer than what came in: it says more and counts as full. Else prove '..UptoSaid'. A law counts once. -/
mutual
def uptoBulk {H : Type} : DataW H → Nat
  | .lit (.string bytes) => bytes.length + 1
  | .lit _ => 1
  | .nil => 1
  | .ptr d => uptoBulk d + 1
  | .slice elems spare => uptoBulkAll elems + uptoBulkAll spare + 1
  | .agg parts => uptoBulkAll parts + 1
  | .iface _ d => uptoBulk d + 1
  | .map entries => uptoBulkEntries entries + 1
  | .held _ => 1
def uptoBulkAll {H : Type} : List (DataW H) → Nat
  | [] => 0
  | d :: r => uptoBulk d + uptoBulkAll r
def uptoBulkEntries {H : Type} : List (Lit × DataW H) → Nat
  | [] => 0
  | x :: r => uptoBulkEntry x + uptoBulkEntries r
def uptoBulkEntry {H : Type} : Lit × DataW H → Nat
  | (.string bytes, d) => bytes.length + uptoBulk d + 1
  | (_, d) => uptoBulk d + 1
 end
def uptoSmall : (H : Type) → List (DataW H) → Bool := fun _ ds => decide (uptoBulkAll ds ≤ 1048576)
def OpenSpec.upto (s : _root_.Go.ChangeSpec) : _root_.Go.OpenSpec := { _root_.Go.OpenSpec.ofChange s with cond := some uptoSmall }

/-- 'chaselaw11.HeapEquals', WHERE WHAT IT READS IS OF BULK AT MOST 1048576: true; the input reads as it did. -/
def heapEqualsUptoRow : OpenClaim := { program := "ytomfaadmmchdcaadoor", sum := "7929e3b340f944fe9afa927d186a9d3ef192915e99fd04978ef223444fb059c4", func := "chase/chaselaw11.HeapEquals", spec := "heapEquals", unfollowed := true, recurses := true, named := ["chase/chaseref11.Words"], apart := false, laid := [("chase/chaseref11.Words", laid_chase_chaseref11_Words)], narrowed := true }
def HeapEqualsUptoSaid : Prop := heapEqualsUptoRow.holds Tryd.pinned (OpenSpec.upto heapEqualsSpec)

/-- 'chaselaw18.ResourceStays', WHERE WHAT IT READS IS OF BULK AT MOST 1048576: true; the input reads as it did. -/
def resourceStaysUptoRow : OpenClaim := { program := "ytomfaadmmchdcaadoor", sum := "7929e3b340f944fe9afa927d186a9d3ef192915e99fd04978ef223444fb059c4", func := "chase/chaselaw18.ResourceStays", spec := "resourceStays", unfollowed := true, recurses := true, named := ["chase/chaseref11.Words"], apart := false, laid := [("chase/chaseref11.Words", laid_chase_chaseref11_Words)], narrowed := true }
def ResourceStaysUptoSaid : Prop := resourceStaysUptoRow.holds Tryd.pinned (OpenSpec.upto resourceStaysSpec)

/-- 'chaselaw18.ResourceDoes', WHERE WHAT IT READS IS OF BULK AT MOST 1048576: true; the input reads as it did. -/
def resourceDoesUptoRow : OpenClaim := { program := "ytomfaadmmchdcaadoor", sum := "7929e3b340f944fe9afa927d186a9d3ef192915e99fd04978ef223444fb059c4", func := "chase/chaselaw18.ResourceDoes", spec := "resourceDoes", unfollowed := true, recurses := true, named := ["chase/chaseref11.Words"], apart := false, laid := [("chase/chaseref11.Words", laid_chase_chaseref11_Words)], narrowed := true }
def ResourceDoesUptoSaid : Prop := resourceDoesUptoRow.holds Tryd.pinned (OpenSpec.upto resourceDoesSpec)

end Rows
end Go.Proofs.YtomfaadmmchdcaaDoor

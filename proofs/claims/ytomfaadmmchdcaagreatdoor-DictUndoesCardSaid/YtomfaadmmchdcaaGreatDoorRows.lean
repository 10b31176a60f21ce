/-
  NARROWER THAN 'FOR EVERY INPUT', by the rows' own cells (each row's printed sentence says how): ResourceRuns: laid · DictLooks: laid · DictStores: laid · DictDoes: laid · DictRuns: laid · DictDefines: laid · DictUndoes: laid · DictPairs: laid.
  DERIVED. THE GIVEN ROWS OF THIS SEAT. 8 by the template 'for every input the law returns true; each argument reads behind the call as it read before'; 0 by the template 'total and deterministic' (their statements: YtomfaadmmchdcaaGreatDoorTotals.lean).
  GIVEN WITH THE SEED: the statements are not yours to turn. If you find one false, say at which input.
  Laid BY PROGRAM, IN A SANDBOX (cutbox-rows.mjs): the forced cells as the released guide's own fill.sh prints them over the translation ff243db300ddec67… (all of the seat's roots in one cut). By AI agents, Wed Nov 11 2026. No macro, syntax, notation, axiom, sorry.
-/
import Derived.Test.YtomfaadmmchdcaaGreatDoorChecked
import GoSem.Claim
import GoSem.ClaimJoined
import GoSem.ClaimMapViews
import Derived.JoinedTies
import Derived.KernelRfl
namespace Go.Proofs.YtomfaadmmchdcaaGreatDoor
/- THE CELL 'sum', in the pinned program and in every row, IS THE sha256 OF THE DUMP (.gsa) THAT YtomfaadmmchdcaaGreatDoorProg.lean LOADS. Nothing in Lean hashes anything: it is a label: what it is worth is what the hold of that sum in a sandbox is worth. -/
noncomputable def Tryz.pinned : Pinned := { name := "ytomfaadmmchdcaagreatdoor", sum := "ff243db300ddec6764265d153eac38304320b9479899bbeb9008759f1ad9c096", checked := Tryz.checked }
namespace Rows
def none {H : Type} : Left H := { results := [], args := [] }

/- WHAT THE LISTED PACKAGE-LEVEL VARIABLES READ AS WHEN THE CALL BEGINS. Each datum BY PROGRAM (the guide's laid-datum.mjs) off the statement by which the dump's own 'gosem.cut.vars' lays the variable. In a bare row this is a premise. The card (YtomfaadmmchdcaaGreatDoorCards.lean) ties it to the program's text. -/
def laid_chase_chaseref11_Words {H : Type} : DataW H := .agg [.lit (.string [97]), .lit (.string [98]), .lit (.string [97, 100, 100]), .lit (.string [120]), .lit (.string [102, 111, 111]), .lit (.string []), .lit (.string [112, 111, 112]), .lit (.string [70, 111, 110, 116])]

/-- 'chaselaw18.ResourceRuns': WHATEVER THE INPUT: true; the input reads as it did. -/
def resourceRunsSpec : ChangeSpec := { name := "resourceRuns", fn := fun _ => fun
  | [d1, d2, d3] => { results := [.lit (.bool true)], args := [d1, d2, d3] }
  | _ => none }
def resourceRunsRow : OpenClaim := { program := "ytomfaadmmchdcaagreatdoor", sum := "ff243db300ddec6764265d153eac38304320b9479899bbeb9008759f1ad9c096", func := "chase/chaselaw18.ResourceRuns", spec := "resourceRuns", unfollowed := true, recurses := true, named := ["chase/chaseref11.Words"], apart := false, laid := [("chase/chaseref11.Words", laid_chase_chaseref11_Words)] }
def ResourceRunsSaid : Prop := resourceRunsRow.holds Tryz.pinned (OpenSpec.ofChange resourceRunsSpec)

/-- ITS FALSE NEIGHBOUR: 'it returns false'. Refute it at one input. -/
def resourceRunsWrong : ChangeSpec := { name := "resourceRuns", fn := fun _ => fun
  | [d1, d2, d3] => { results := [.lit (.bool false)], args := [d1, d2, d3] }
  | _ => none }
def ResourceRunsWrongFalsely : Prop := resourceRunsRow.holds Tryz.pinned (OpenSpec.ofChange resourceRunsWrong)

/-- 'chaselaw16.DictLooks': WHATEVER THE INPUT: true; the input reads as it did. -/
def dictLooksSpec : ChangeSpec := { name := "dictLooks", fn := fun _ => fun
  | [d1, d2, d3] => { results := [.lit (.bool true)], args := [d1, d2, d3] }
  | _ => none }
def dictLooksRow : OpenClaim := { program := "ytomfaadmmchdcaagreatdoor", sum := "ff243db300ddec6764265d153eac38304320b9479899bbeb9008759f1ad9c096", func := "chase/chaselaw16.DictLooks", spec := "dictLooks", unfollowed := true, recurses := true, named := ["chase/chaseref11.Words"], apart := false, laid := [("chase/chaseref11.Words", laid_chase_chaseref11_Words)] }
def DictLooksSaid : Prop := dictLooksRow.holds Tryz.pinned (OpenSpec.ofChange dictLooksSpec)

/-- ITS FALSE NEIGHBOUR: 'it returns false'. Refute it at one input. -/
def dictLooksWrong : ChangeSpec := { name := "dictLooks", fn := fun _ => fun
  | [d1, d2, d3] => { results := [.lit (.bool false)], args := [d1, d2, d3] }
  | _ => none }
def DictLooksWrongFalsely : Prop := dictLooksRow.holds Tryz.pinned (OpenSpec.ofChange dictLooksWrong)

/-- 'chaselaw16.DictStores': WHATEVER THE INPUT: true; the input reads as it did. -/
def dictStoresSpec : ChangeSpec := { name := "dictStores", fn := fun _ => fun
  | [d1, d2] => { results := [.lit (.bool true)], args := [d1, d2] }
  | _ => none }
def dictStoresRow : OpenClaim := { program := "ytomfaadmmchdcaagreatdoor", sum := "ff243db300ddec6764265d153eac38304320b9479899bbeb9008759f1ad9c096", func := "chase/chaselaw16.DictStores", spec := "dictStores", unfollowed := true, recurses := true, named := ["chase/chaseref11.Words"], apart := false, laid := [("chase/chaseref11.Words", laid_chase_chaseref11_Words)] }
def DictStoresSaid : Prop := dictStoresRow.holds Tryz.pinned (OpenSpec.ofChange dictStoresSpec)

/-- ITS FALSE NEIGHBOUR: 'it returns false'. Refute it at one input. -/
def dictStoresWrong : ChangeSpec := { name := "dictStores", fn := fun _ => fun
  | [d1, d2] => { results := [.lit (.bool false)], args := [d1, d2] }
  | _ => none }
def DictStoresWrongFalsely : Prop := dictStoresRow.holds Tryz.pinned (OpenSpec.ofChange dictStoresWrong)

/-- 'chaselaw16.DictDoes': WHATEVER THE INPUT: true; the input reads as it did. -/
def dictDoesSpec : ChangeSpec := { name := "dictDoes", fn := fun _ => fun
  | [d1, d2, d3] => { results := [.lit (.bool true)], args := [d1, d2, d3] }
  | _ => none }
def dictDoesRow : OpenClaim := { program := "ytomfaadmmchdcaagreatdoor", sum := "ff243db300ddec6764265d153eac38304320b9479899bbeb9008759f1ad9c096", func := "chase/chaselaw16.DictDoes", spec := "dictDoes", unfollowed := true, recurses := true, named := ["chase/chaseref11.Words"], apart := false, laid := [("chase/chaseref11.Words", laid_chase_chaseref11_Words)] }
def DictDoesSaid : Prop := dictDoesRow.holds Tryz.pinned (OpenSpec.ofChange dictDoesSpec)

/-- ITS FALSE NEIGHBOUR: 'it returns false'. Refute it at one input. -/
def dictDoesWrong : ChangeSpec := { name := "dictDoes", fn := fun _ => fun
  | [d1, d2, d3] => { results := [.lit (.bool false)], args := [d1, d2, d3] }
  | _ => none }
def DictDoesWrongFalsely : Prop := dictDoesRow.holds Tryz.pinned (OpenSpec.ofChange dictDoesWrong)

/-- 'chaselaw16.DictRuns': WHATEVER THE INPUT: true; the input reads as it did. -/
def dictRunsSpec : ChangeSpec := { name := "dictRuns", fn := fun _ => fun
  | [d1, d2, d3] => { results := [.lit (.bool true)], args := [d1, d2, d3] }
  | _ => none }
def dictRunsRow : OpenClaim := { program := "ytomfaadmmchdcaagreatdoor", sum := "ff243db300ddec6764265d153eac38304320b9479899bbeb9008759f1ad9c096", func := "chase/chaselaw16.DictRuns", spec := "dictRuns", unfollowed := true, recurses := true, named := ["chase/chaseref11.Words"], apart := false, laid := [("chase/chaseref11.Words", laid_chase_chaseref11_Words)] }
def DictRunsSaid : Prop := dictRunsRow.holds Tryz.pinned (OpenSpec.ofChange dictRunsSpec)

/-- ITS FALSE NEIGHBOUR: 'it returns false'. Refute it at one input. -/
def dictRunsWrong : ChangeSpec := { name := "dictRuns", fn := fun _ => fun
  | [d1, d2, d3] => { results := [.lit (.bool false)], args := [d1, d2, d3] }
  | _ => none }
def DictRunsWrongFalsely : Prop := dictRunsRow.holds Tryz.pinned (OpenSpec.ofChange dictRunsWrong)

/-- 'chaselaw16.DictDefines': WHATEVER THE INPUT: true; the input reads as it did. -/
def dictDefinesSpec : ChangeSpec := { name := "dictDefines", fn := fun _ => fun
  | [d1, d2] => { results := [.lit (.bool true)], args := [d1, d2] }
  | _ => none }
def dictDefinesRow : OpenClaim := { program := "ytomfaadmmchdcaagreatdoor", sum := "ff243db300ddec6764265d153eac38304320b9479899bbeb9008759f1ad9c096", func := "chase/chaselaw16.DictDefines", spec := "dictDefines", unfollowed := true, recurses := true, named := ["chase/chaseref11.Words"], apart := false, laid := [("chase/chaseref11.Words", laid_chase_chaseref11_Words)] }
def DictDefinesSaid : Prop := dictDefinesRow.holds Tryz.pinned (OpenSpec.ofChange dictDefinesSpec)

/-- ITS FALSE NEIGHBOUR: 'it returns false'. Refute it at one input. -/
def dictDefinesWrong : ChangeSpec := { name := "dictDefines", fn := fun _ => fun
  | [d1, d2] => { results := [.lit (.bool false)], args := [d1, d2] }
  | _ => none }
def DictDefinesWrongFalsely : Prop := dictDefinesRow.holds Tryz.pinned (OpenSpec.ofChange dictDefinesWrong)

/-- 'chaselaw16.DictUndoes': WHATEVER THE INPUT: true; the input reads as it did. -/
def dictUndoesSpec : ChangeSpec := { name := "dictUndoes", fn := fun _ => fun
  | [d1, d2] => { results := [.lit (.bool true)], args := [d1, d2] }
  | _ => none }
def dictUndoesRow : OpenClaim := { program := "ytomfaadmmchdcaagreatdoor", sum := "ff243db300ddec6764265d153eac38304320b9479899bbeb9008759f1ad9c096", func := "chase/chaselaw16.DictUndoes", spec := "dictUndoes", unfollowed := true, recurses := true, named := ["chase/chaseref11.Words"], apart := false, laid := [("chase/chaseref11.Words", laid_chase_chaseref11_Words)] }
def DictUndoesSaid : Prop := dictUndoesRow.holds Tryz.pinned (OpenSpec.ofChange dictUndoesSpec)

/-- ITS FALSE NEIGHBOUR: 'it returns false'. Refute it at one input. -/
def dictUndoesWrong : ChangeSpec := { name := "dictUndoes", fn := fun _ => fun
  | [d1, d2] => { results := [.lit (.bool false)], args := [d1, d2] }
  | _ => none }
def DictUndoesWrongFalsely : Prop := dictUndoesRow.holds Tryz.pinned (OpenSpec.ofChange dictUndoesWrong)

/-- 'chaselaw16.DictPairs': WHATEVER THE INPUT: true; the input reads as it did. -/
def dictPairsSpec : ChangeSpec := { name := "dictPairs", fn := fun _ => fun
  | [d1, d2] => { results := [.lit (.bool true)], args := [d1, d2] }
  | _ => none }
def dictPairsRow : OpenClaim := { program := "ytomfaadmmchdcaagreatdoor", sum := "ff243db300ddec6764265d153eac38304320b9479899bbeb9008759f1ad9c096", func := "chase/chaselaw16.DictPairs", spec := "dictPairs", unfollowed := true, recurses := true, named := ["chase/chaseref11.Words"], apart := false, laid := [("chase/chaseref11.Words", laid_chase_chaseref11_Words)] }
def DictPairsSaid : Prop := dictPairsRow.holds Tryz.pinned (OpenSpec.ofChange dictPairsSpec)

/-- ITS FALSE NEIGHBOUR: 'it returns false'. Refute it at one input. -/
def dictPairsWrong : ChangeSpec := { name := "dictPairs", fn := fun _ => fun
  | [d1, d2] => { results := [.lit (.bool false)], args := [d1, d2] }
  | _ => none }
def DictPairsWrongFalsely : Prop := dictPairsRow.holds Tryz.pinned (OpenSpec.ofChange dictPairsWrong)

/- THE SECOND FORM. 'bulk': how many values and letters a reading holds, each counted each time it is reached (what is shared counts as often as it is met; a slice's spare places count too). A statement '..UptoSaid' is the law's where the arguments, and the package variables that the reading takes, are together of bulk at most 1048576: NARROWER than '..Said'. Prove '..Said' where nothing that the law and all that it calls make is longer than what came in: it says more and counts as full. Else prove '..UptoSaid'. A law counts once. -/
mutual
def uptoBulk {H : Type} : DataW H → Nat
  | .lit (.string bytes) => bytes.length + 1
  | .lit _ => 1
  | .nil => 1
  | .ptr d => uptoBulk d + 1
  | .slice elems spare => uptoBulkAll elems + uptoBulkAll spare + 1
  | .agg parts => uptoBulkAll parts + 1
  | .iface _ d => uptoBulk d + 1
  | .map entries => uptoBulkEntries entries + 1
  | .held _ => 1
def uptoBulkAll {H : Type} : List (DataW H) → Nat
  | [] => 0
  | d :: r => uptoBulk d + uptoBulkAll r
def uptoBulkEntries {H : Type} : List (Lit × DataW H) → Nat
  | [] => 0
  | x :: r => uptoBulkEntry x + uptoBulkEntries r
def uptoBulkEntry {H : Type} : Lit × DataW H → Nat
  | (.string bytes, d) => bytes.length + uptoBulk d + 1
  | (_, d) => uptoBulk d + 1
 end
def uptoSmall : (H : Type) → List (DataW H) → Bool := fun _ ds => decide (uptoBulkAll ds ≤ 1048576)
def OpenSpec.upto (s : _root_.Go.ChangeSpec) : _root_.Go.OpenSpec := { _root_.Go.OpenSpec.ofChange s with cond := some uptoSmall }

/-- 'chaselaw18.ResourceRuns', WHERE WHAT IT READS IS OF BULK AT MOST 1048576: true; the input reads as it did. -/
def resourceRunsUptoRow : OpenClaim := { program := "ytomfaadmmchdcaagreatdoor", sum := "ff243db300ddec6764265d153eac38304320b9479899bbeb9008759f1ad9c096", func := "chase/chaselaw18.ResourceRuns", spec := "resourceRuns", unfollowed := true, recurses := true, named := ["chase/chaseref11.Words"], apart := false, laid := [("chase/chaseref11.Words", laid_chase_chaseref11_Words)], narrowed := true }
def ResourceRunsUptoSaid : Prop := resourceRunsUptoRow.holds Tryz.pinned (OpenSpec.upto resourceRunsSpec)

/-- 'chaselaw16.DictLooks', WHERE WHAT IT READS IS OF BULK AT MOST 1048576: true; the input reads as it did. -/
def dictLooksUptoRow : OpenClaim := { program := "ytomfaadmmchdcaagreatdoor", sum := "ff243db300ddec6764265d153eac38304320b9479899bbeb9008759f1ad9c096", func := "chase/chaselaw16.DictLooks", spec := "dictLooks", unfollowed := true, recurses := true, named := ["chase/chaseref11.Words"], apart := false, laid := [("chase/chaseref11.Words", laid_chase_chaseref11_Words)], narrowed := true }
def DictLooksUptoSaid : Prop := dictLooksUptoRow.holds Tryz.pinned (OpenSpec.upto dictLooksSpec)

/-- 'chaselaw16.DictStores', WHERE WHAT IT READS IS OF BULK AT MOST 1048576: true; the input reads as it did. -/
def dictStoresUptoRow : OpenClaim := { program := "ytomfaadmmchdcaagreatdoor", sum := "ff243db300ddec6764265d153eac38304320b9479899bbeb9008759f1ad9c096", func := "chase/chaselaw16.DictStores", spec := "dictStores", unfollowed := true, recurses := true, named := ["chase/chaseref11.Words"], apart := false, laid := [("chase/chaseref11.Words", laid_chase_chaseref11_Words)], narrowed := true }
def DictStoresUptoSaid : Prop := dictStoresUptoRow.holds Tryz.pinned (OpenSpec.upto dictStoresSpec)

/-- 'chaselaw16.DictDoes', WHERE WHAT IT READS IS OF BULK AT MOST 1048576: true; the input reads as it did. -/
def dictDoesUptoRow : OpenClaim := { program := "ytomfaadmmchdcaagreatdoor", sum := "ff243db300ddec6764265d153eac38304320b9479899bbeb9008759f1ad9c096", func := "chase/chaselaw16.DictDoes", spec := "dictDoes", unfollowed := true, recurses := true, named := ["chase/chaseref11.Words"], apart := false, laid := [("chase/chaseref11.Words", laid_chase_chaseref11_Words)], narrowed := true }
def DictDoesUptoSaid : Prop := dictDoesUptoRow.holds Tryz.pinned (OpenSpec.upto dictDoesSpec)

/-- 'chaselaw16.DictRuns', WHERE WHAT IT READS IS OF BULK AT MOST 1048576: true; the input reads as it did. -/
def dictRunsUptoRow : OpenClaim := { program := "ytomfaadmmchdcaagreatdoor", sum := "ff243db300ddec6764265d153eac38304320b9479899bbeb9008759f1ad9c096", func := "chase/chaselaw16.DictRuns", spec := "dictRuns", unfollowed := true, recurses := true, named := ["chase/chaseref11.Words"], apart := false, laid := [("chase/chaseref11.Words", laid_chase_chaseref11_Words)], narrowed := true }
def DictRunsUptoSaid : Prop := dictRunsUptoRow.holds Tryz.pinned (OpenSpec.upto dictRunsSpec)

/-- 'chaselaw16.DictDefines', WHERE WHAT IT READS IS OF BULK AT MOST 1048576: true; the input reads as it did. -/
def dictDefinesUptoRow : OpenClaim := { program := "ytomfaadmmchdcaagreatdoor", sum := "ff243db300ddec6764265d153eac38304320b9479899bbeb9008759f1ad9c096", func := "chase/chaselaw16.DictDefines", spec := "dictDefines", unfollowed := true, recurses := true, named := ["chase/chaseref11.Words"], apart := false, laid := [("chase/chaseref11.Words", laid_chase_chaseref11_Words)], narrowed := true }
def DictDefinesUptoSaid : Prop := dictDefinesUptoRow.holds Tryz.pinned (OpenSpec.upto dictDefinesSpec)

/-- 'chaselaw16.DictUndoes', WHERE WHAT IT READS IS OF BULK AT MOST 1048576: true; the input reads as it did. -/
def dictUndoesUptoRow : OpenClaim := { program := "ytomfaadmmchdcaagreatdoor", sum := "ff243db300ddec6764265d153eac38304320b9479899bbeb9008759f1ad9c096", func := "chase/chaselaw16.DictUndoes", spec := "dictUndoes", unfollowed := true, recurses := true, named := ["chase/chaseref11.Words"], apart := false, laid := [("chase/chaseref11.Words", laid_chase_chaseref11_Words)], narrowed := true }
def DictUndoesUptoSaid : Prop := dictUndoesUptoRow.holds Tryz.pinned (OpenSpec.upto dictUndoesSpec)

/-- 'chaselaw16.DictPairs', WHERE WHAT IT READS IS OF BULK AT MOST 1048576: true; the input reads as it did. -/
def dictPairsUptoRow : OpenClaim := { program := "ytomfaadmmchdcaagreatdoor", sum := "ff243db300ddec6764265d153eac38304320b9479899bbeb9008759f1ad9c096", func := "chase/chaselaw16.DictPairs", spec := "dictPairs", unfollowed := true, recurses := true, named := ["chase/chaseref11.Words"], apart := false, laid := [("chase/chaseref11.Words", laid_chase_chaseref11_Words)], narrowed := true }
def DictPairsUptoSaid : Prop := dictPairsUptoRow.holds Tryz.pinned (OpenSpec.upto dictPairsSpec)

end Rows
end Go.Proofs.YtomfaadmmchdcaaGreatDoor

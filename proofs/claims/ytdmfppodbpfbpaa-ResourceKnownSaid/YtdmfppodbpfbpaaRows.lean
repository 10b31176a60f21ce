/-
  No cell of these rows narrows 'for every input' (looked for: loops, veiled, ifaces, maps, wideKeys, modest, calm, conditions, laid).
  DERIVED. THE GIVEN ROWS OF THIS SEAT. 4 by the template 'for every input the law returns true; each argument reads behind the call as it read before'; 0 by the template 'total and deterministic' (their statements: YtdmfppodbpfbpaaTotals.lean).
  GIVEN WITH THE SEED: the statements are not yours to turn. If you find one false, say at which input.
  Laid BY PROGRAM, IN A SANDBOX (cutbox-rows.mjs): the forced cells as the released guide's own fill.sh prints them over the translation cd7425515897c3d9… (all of the seat's roots in one cut). By AI agents, Wed Nov 11 2026. No macro, syntax, notation, axiom, sorry.
-/
import Derived.Test.YtdmfppodbpfbpaaChecked
import GoSem.Claim
import GoSem.ClaimJoined
import GoSem.ClaimMapViews
import Derived.JoinedTies
import Derived.KernelRfl
namespace Go.Proofs.Ytdmfppodbpfbpaa
/- THE CELL 'sum', in the pinned program and in every row, IS THE sha256 OF THE DUMP (.gsa) THAT YtdmfppodbpfbpaaProg.lean LOADS. Nothing in Lean hashes anything: it is a label: what it is worth is what the hold of that sum in a sandbox is worth. -/
noncomputable def Try.pinned : Pinned := { name := "ytdmfppodbpfbpaa", sum := "cd7425515897c3d9376f43dadb33294ace89eb9d901077de0dcccd59dbca9d2c", checked := Try.checked }
namespace Rows
def none {H : Type} : Left H := { results := [], args := [] }

/-- 'chaselaw19.SaveNewer': WHATEVER THE INPUT: true; the input reads as it did. -/
def saveNewerSpec : ChangeSpec := { name := "saveNewer", fn := fun _ => fun
  | [d1, d2] => { results := [.lit (.bool true)], args := [d1, d2] }
  | _ => none }
def saveNewerRow : OpenClaim := { program := "ytdmfppodbpfbpaa", sum := "cd7425515897c3d9376f43dadb33294ace89eb9d901077de0dcccd59dbca9d2c", func := "chase/chaselaw19.SaveNewer", spec := "saveNewer", unfollowed := true, recurses := true, apart := false }
def SaveNewerSaid : Prop := saveNewerRow.holds Try.pinned (OpenSpec.ofChange saveNewerSpec)

/-- ITS FALSE NEIGHBOUR: 'it returns false'. Refute it at one input. -/
def saveNewerWrong : ChangeSpec := { name := "saveNewer", fn := fun _ => fun
  | [d1, d2] => { results := [.lit (.bool false)], args := [d1, d2] }
  | _ => none }
def SaveNewerWrongFalsely : Prop := saveNewerRow.holds Try.pinned (OpenSpec.ofChange saveNewerWrong)

/-- 'chaselaw19.SaveKnown': WHATEVER THE INPUT: true; the input reads as it did. -/
def saveKnownSpec : ChangeSpec := { name := "saveKnown", fn := fun _ => fun
  | [] => { results := [.lit (.bool true)], args := [] }
  | _ => none }
def saveKnownRow : OpenClaim := { program := "ytdmfppodbpfbpaa", sum := "cd7425515897c3d9376f43dadb33294ace89eb9d901077de0dcccd59dbca9d2c", func := "chase/chaselaw19.SaveKnown", spec := "saveKnown", unfollowed := true, recurses := true, apart := false }
def SaveKnownSaid : Prop := saveKnownRow.holds Try.pinned (OpenSpec.ofChange saveKnownSpec)

/-- ITS FALSE NEIGHBOUR: 'it returns false'. Refute it at one input. -/
def saveKnownWrong : ChangeSpec := { name := "saveKnown", fn := fun _ => fun
  | [] => { results := [.lit (.bool false)], args := [] }
  | _ => none }
def SaveKnownWrongFalsely : Prop := saveKnownRow.holds Try.pinned (OpenSpec.ofChange saveKnownWrong)

/-- 'chaselaw18.ResourceKnown': WHATEVER THE INPUT: true; the input reads as it did. -/
def resourceKnownSpec : ChangeSpec := { name := "resourceKnown", fn := fun _ => fun
  | [] => { results := [.lit (.bool true)], args := [] }
  | _ => none }
def resourceKnownRow : OpenClaim := { program := "ytdmfppodbpfbpaa", sum := "cd7425515897c3d9376f43dadb33294ace89eb9d901077de0dcccd59dbca9d2c", func := "chase/chaselaw18.ResourceKnown", spec := "resourceKnown", unfollowed := true, recurses := true, apart := false }
def ResourceKnownSaid : Prop := resourceKnownRow.holds Try.pinned (OpenSpec.ofChange resourceKnownSpec)

/-- ITS FALSE NEIGHBOUR: 'it returns false'. Refute it at one input. -/
def resourceKnownWrong : ChangeSpec := { name := "resourceKnown", fn := fun _ => fun
  | [] => { results := [.lit (.bool false)], args := [] }
  | _ => none }
def ResourceKnownWrongFalsely : Prop := resourceKnownRow.holds Try.pinned (OpenSpec.ofChange resourceKnownWrong)

/-- 'chaselaw11.HeapKnown': WHATEVER THE INPUT: true; the input reads as it did. -/
def heapKnownSpec : ChangeSpec := { name := "heapKnown", fn := fun _ => fun
  | [] => { results := [.lit (.bool true)], args := [] }
  | _ => none }
def heapKnownRow : OpenClaim := { program := "ytdmfppodbpfbpaa", sum := "cd7425515897c3d9376f43dadb33294ace89eb9d901077de0dcccd59dbca9d2c", func := "chase/chaselaw11.HeapKnown", spec := "heapKnown", unfollowed := true, recurses := true, apart := false }
def HeapKnownSaid : Prop := heapKnownRow.holds Try.pinned (OpenSpec.ofChange heapKnownSpec)

/-- ITS FALSE NEIGHBOUR: 'it returns false'. Refute it at one input. -/
def heapKnownWrong : ChangeSpec := { name := "heapKnown", fn := fun _ => fun
  | [] => { results := [.lit (.bool false)], args := [] }
  | _ => none }
def HeapKnownWrongFalsely : Prop := heapKnownRow.holds Try.pinned (OpenSpec.ofChange heapKnownWrong)

/- THE SECOND FORM. 'bulk': how many values and letters a reading holds, each counted each time it is reached (what is shared counts as often as it is met; a slice's spare places count too). A statement '..UptoSaid' is the law's where the arguments, and the package variables that the reading takes, are together of bulk at most 1048576: NARROWER than '..Said'. Prove '..Said' where nothing that the law and all that it calls make is longer than what came in: it says more and counts as full. Else prove '..UptoSaid'. A law counts once. -/
mutual
def uptoBulk {H : Type} : DataW H → Nat
  | .lit (.string bytes) => bytes.length + 1
  | .lit _ => 1
  | .nil => 1
  | .ptr d => uptoBulk d + 1
  | .slice elems spare => uptoBulkAll elems + uptoBulkAll spare + 1
  | .agg parts => uptoBulkAll parts + 1
  | .iface _ d => uptoBulk d + 1
  | .map entries => uptoBulkEntries entries + 1
  | .held _ => 1
def uptoBulkAll {H : Type} : List (DataW H) → Nat
  | [] => 0
  | d :: r => uptoBulk d + uptoBulkAll r
def uptoBulkEntries {H : Type} : List (Lit × DataW H) → Nat
  | [] => 0
  | x :: r => uptoBulkEntry x + uptoBulkEntries r
def uptoBulkEntry {H : Type} : Lit × DataW H → Nat
  | (.string bytes, d) => bytes.length + uptoBulk d + 1
  | (_, d) => uptoBulk d + 1
 end
def uptoSmall : (H : Type) → List (DataW H) → Bool := fun _ ds => decide (uptoBulkAll ds ≤ 1048576)
def OpenSpec.upto (s : _root_.Go.ChangeSpec) : _root_.Go.OpenSpec := { _root_.Go.OpenSpec.ofChange s with cond := some uptoSmall }

/-- 'chaselaw19.SaveNewer', WHERE WHAT IT READS IS OF BULK AT MOST 1048576: true; the input reads as it did. -/
def saveNewerUptoRow : OpenClaim := { program := "ytdmfppodbpfbpaa", sum := "cd7425515897c3d9376f43dadb33294ace89eb9d901077de0dcccd59dbca9d2c", func := "chase/chaselaw19.SaveNewer", spec := "saveNewer", unfollowed := true, recurses := true, apart := false, narrowed := true }
def SaveNewerUptoSaid : Prop := saveNewerUptoRow.holds Try.pinned (OpenSpec.upto saveNewerSpec)

/-- 'chaselaw19.SaveKnown', WHERE WHAT IT READS IS OF BULK AT MOST 1048576: true; the input reads as it did. -/
def saveKnownUptoRow : OpenClaim := { program := "ytdmfppodbpfbpaa", sum := "cd7425515897c3d9376f43dadb33294ace89eb9d901077de0dcccd59dbca9d2c", func := "chase/chaselaw19.SaveKnown", spec := "saveKnown", unfollowed := true, recurses := true, apart := false, narrowed := true }
def SaveKnownUptoSaid : Prop := saveKnownUptoRow.holds Try.pinned (OpenSpec.upto saveKnownSpec)

/-- 'chaselaw18.ResourceKnown', WHERE WHAT IT READS IS OF BULK AT MOST 1048576: true; the input reads as it did. -/
def resourceKnownUptoRow : OpenClaim := { program := "ytdmfppodbpfbpaa", sum := "cd7425515897c3d9376f43dadb33294ace89eb9d901077de0dcccd59dbca9d2c", func := "chase/chaselaw18.ResourceKnown", spec := "resourceKnown", unfollowed := true, recurses := true, apart := false, narrowed := true }
def ResourceKnownUptoSaid : Prop := resourceKnownUptoRow.holds Try.pinned (OpenSpec.upto resourceKnownSpec)

/-- 'chaselaw11.HeapKnown', WHERE WHAT IT READS IS OF BULK AT MOST 1048576: true; the input reads as it did. -/
def heapKnownUptoRow : OpenClaim := { program := "ytdmfppodbpfbpaa", sum := "cd7425515897c3d9376f43dadb33294ace89eb9d901077de0dcccd59dbca9d2c", func := "chase/chaselaw11.HeapKnown", spec := "heapKnown", unfollowed := true, recurses := true, apart := false, narrowed := true }
def HeapKnownUptoSaid : Prop := heapKnownUptoRow.holds Try.pinned (OpenSpec.upto heapKnownSpec)

end Rows
end Go.Proofs.Ytdmfppodbpfbpaa

/-
  No cell of these rows narrows 'for every input' (looked for: loops, veiled, ifaces, maps, wideKeys, modest, calm, conditions, laid).
  DERIVED. THE GIVEN ROWS OF THIS SEAT. 2 by the template 'for every input the law returns true; each argument reads behind the call as it read before'; 0 by the template 'total and deterministic' (their statements: YthpnccneaaeomaaTotals.lean).
  GIVEN WITH THE SEED: the statements are not yours to turn. If you find one false, say at which input.
  Laid BY PROGRAM, IN A SANDBOX (cutbox-rows.mjs): the forced cells as the released guide's own fill.sh prints them over the translation 89e1aad5d4d833d3… (all of the seat's roots in one cut). By AI agents, Wed Nov 11 2026. No macro, syntax, notation, axiom, sorry.
-/
import Derived.Test.YthpnccneaaeomaaChecked
import GoSem.Claim
import GoSem.ClaimJoined
import GoSem.ClaimMapViews
import Derived.JoinedTies
import Derived.KernelRfl
namespace Go.Proofs.Ythpnccneaaeomaa
/- THE CELL 'sum', in the pinned program and in every row, IS THE sha256 OF THE DUMP (.gsa) THAT YthpnccneaaeomaaProg.lean LOADS. Nothing in Lean hashes anything: it is a label: what it is worth is what the hold of that sum in a sandbox is worth. -/
noncomputable def Try.pinned : Pinned := { name := "ythpnccneaaeomaa", sum := "89e1aad5d4d833d3b149fca20c93effd421ea140aba9b5152c15324018a64417", checked := Try.checked }
namespace Rows
def none {H : Type} : Left H := { results := [], args := [] }

/-- 'chaselaw16.DictKnown': WHATEVER THE INPUT: true; the input reads as it did. -/
def dictKnownSpec : ChangeSpec := { name := "dictKnown", fn := fun _ => fun
  | [] => { results := [.lit (.bool true)], args := [] }
  | _ => none }
def dictKnownRow : OpenClaim := { program := "ythpnccneaaeomaa", sum := "89e1aad5d4d833d3b149fca20c93effd421ea140aba9b5152c15324018a64417", func := "chase/chaselaw16.DictKnown", spec := "dictKnown", unfollowed := true, recurses := true, apart := false }
def DictKnownSaid : Prop := dictKnownRow.holds Try.pinned (OpenSpec.ofChange dictKnownSpec)

/-- ITS FALSE NEIGHBOUR: 'it returns false'. Refute it at one input. -/
def dictKnownWrong : ChangeSpec := { name := "dictKnown", fn := fun _ => fun
  | [] => { results := [.lit (.bool false)], args := [] }
  | _ => none }
def DictKnownWrongFalsely : Prop := dictKnownRow.holds Try.pinned (OpenSpec.ofChange dictKnownWrong)

/-- 'chaselaw15.CompKnown': WHATEVER THE INPUT: true; the input reads as it did. -/
def compKnownSpec : ChangeSpec := { name := "compKnown", fn := fun _ => fun
  | [] => { results := [.lit (.bool true)], args := [] }
  | _ => none }
def compKnownRow : OpenClaim := { program := "ythpnccneaaeomaa", sum := "89e1aad5d4d833d3b149fca20c93effd421ea140aba9b5152c15324018a64417", func := "chase/chaselaw15.CompKnown", spec := "compKnown", inPlace := ["internal/bytealg.IndexByteString", "internal/bytealg.IndexString"], unfollowed := true, recurses := true, named := ["internal/bytealg.MaxLen"], apart := false }
def CompKnownSaid : Prop := compKnownRow.holds Try.pinned (OpenSpec.ofChange compKnownSpec)

/-- ITS FALSE NEIGHBOUR: 'it returns false'. Refute it at one input. -/
def compKnownWrong : ChangeSpec := { name := "compKnown", fn := fun _ => fun
  | [] => { results := [.lit (.bool false)], args := [] }
  | _ => none }
def CompKnownWrongFalsely : Prop := compKnownRow.holds Try.pinned (OpenSpec.ofChange compKnownWrong)

/- THE SECOND FORM. 'bulk': how many values and letters a reading holds, each counted each time it is reached (what is shared counts as often as it is met; a slice's spare places count too). A statement '..UptoSaid' is the law's where the arguments, and the package variables that the reading takes, are together of bulk at most 1048576: NARROWER than '..Said'. Prove '..Said' where nothing that the law and all that it calls make is longer than what came in: it says more and counts as full. Else prove '..UptoSaid'. A law counts once. -/
mutual
def uptoBulk {H : Type} : DataW H → Nat
  | .lit (.string bytes) => bytes.length + 1
  | .lit _ => 1
  | .nil => 1
  | .ptr d => uptoBulk d + 1
  | .slice elems spare => uptoBulkAll elems + uptoBulkAll spare + 1
  | .agg parts => uptoBulkAll parts + 1
  | .iface _ d => uptoBulk d + 1
  | .map entries => uptoBulkEntries entries + 1
  | .held _ => 1
def uptoBulkAll {H : Type} : List (DataW H) → Nat
  | [] => 0
  | d :: r => uptoBulk d + uptoBulkAll r
def uptoBulkEntries {H : Type} : List (Lit × DataW H) → Nat
  | [] => 0
  | x :: r => uptoBulkEntry x + uptoBulkEntries r
def uptoBulkEntry {H : Type} : Lit × DataW H → Nat
  | (.string bytes, d) => bytes.length + uptoBulk d + 1
  | (_, d) => uptoBulk d + 1
 end
def uptoSmall : (H : Type) → List (DataW H) → Bool := fun _ ds => decide (uptoBulkAll ds ≤ 1048576)
def OpenSpec.upto (s : _root_.Go.ChangeSpec) : _root_.Go.OpenSpec := { _root_.Go.OpenSpec.ofChange s with cond := some uptoSmall }

/-- 'chaselaw16.DictKnown', WHERE WHAT IT READS IS OF BULK AT MOST 1048576: true; the input reads as it did. -/
def dictKnownUptoRow : OpenClaim := { program := "ythpnccneaaeomaa", sum := "89e1aad5d4d833d3b149fca20c93effd421ea140aba9b5152c15324018a64417", func := "chase/chaselaw16.DictKnown", spec := "dictKnown", unfollowed := true, recurses := true, apart := false, narrowed := true }
def DictKnownUptoSaid : Prop := dictKnownUptoRow.holds Try.pinned (OpenSpec.upto dictKnownSpec)

/-- 'chaselaw15.CompKnown', WHERE WHAT IT READS IS OF BULK AT MOST 1048576: true; the input reads as it did. -/
def compKnownUptoRow : OpenClaim := { program := "ythpnccneaaeomaa", sum := "89e1aad5d4d833d3b149fca20c93effd421ea140aba9b5152c15324018a64417", func := "chase/chaselaw15.CompKnown", spec := "compKnown", inPlace := ["internal/bytealg.IndexByteString", "internal/bytealg.IndexString"], unfollowed := true, recurses := true, named := ["internal/bytealg.MaxLen"], apart := false, narrowed := true }
def CompKnownUptoSaid : Prop := compKnownUptoRow.holds Try.pinned (OpenSpec.upto compKnownSpec)

end Rows
end Go.Proofs.Ythpnccneaaeomaa

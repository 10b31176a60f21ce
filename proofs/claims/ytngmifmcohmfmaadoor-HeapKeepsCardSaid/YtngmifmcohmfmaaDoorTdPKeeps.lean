/- For every draft, four words, octet and string, HeapKeeps of the package chaselaw11 returns true: valid heaps stay valid, what was put is read, and nothing else changes.
Conditions: none beyond the given card's (the package's variable Words holds what the program's text lays). -/
import Derived.Test.YtngmifmcohmfmaaDoorTdVo
import Derived.Test.YtngmifmcohmfmaaDoorTdAr4
import Derived.Test.YtngmifmcohmfmaaDoorAbGl
import Derived.Test.YtngmifmcohmfmaaDoorTdLaid
import Derived.Test.YtngmifmcohmfmaaDoorCards
import Derived.Test.YtngmifmcohmfmaaDoorTie
import Derived.Test.YtngmifmcohmfmaaDoorChecked
import Derived.OpenShut
import Derived.LaidLaws
import Derived.LaidHandle
import Derived.Lib.LaidIn
import Derived.SevenTiedAt
namespace Go.Proofs.YtngmifmcohmfmaaDoor.heapKeeps
open Go.ChangeShapes Go.WideShapes Go.ChangeAt Go.RowKit Go.Ab Go.Ab.Td

theorem own : ownKnob Tryd.prog.godebug = none := by kernel_rfl
def tys : List (Bool × List Ty) := [(true, draftTy), (true, arrTy wordTy 4), (false, [.int .u8]), (false, [.str])]

theorem law (ps : List PV) (h : ArgsHave tys ps) : OkC Tryd.prog G 9 ps [] (.bool true) := by
  unfold tys at h
  cases h with
  | cons h1 h =>
  cases h with
  | cons h2 h =>
  cases h with
  | cons h3 h =>
  cases h with
  | cons h4 h =>
    cases h
    obtain ⟨cells, ops, dicts, rfl, a1, a2, a3⟩ := hasDraftN h1
    obtain ⟨w0, w1, w2, w3, rfl⟩ := hasWd4 h2
    obtain ⟨at1, rfl, c1, c2⟩ := hasU8 h3
    obtain ⟨s0, rfl, _⟩ := hasStr h4
    exact ok_law11_HeapKeeps laid cells ops dicts a1 w0 w1 w2 w3 at1 ⟨c1, c2⟩ s0

theorem globs (W : World) (h : laidMetH Tryd.prog Rows.heapKeepsRow.laid W) : GlobOk Tryd.prog G W (Iall W) := by
  refine ⟨fun i cs hi => ?_, fun _ _ h => by cases h⟩
  have h' : laidMet Tryd.prog [("chase/chaseref11.Words", .agg (([[97], [98], [97, 100, 100], [120], [102, 111, 111], [], [112, 111, 112], [70, 111, 110, 116]] : List (List UInt8)).map fun s => .lit (.string s)))] W := h
  have hw := glob_strs (g := 0) (t := 155) (e := 9) (by kernel_rfl) (by kernel_rfl) (by kernel_rfl) (by kernel_rfl) (by kernel_rfl) (by kernel_rfl) h'
  match i, hi with
  | 0, hi => cases hi; exact hw

/-- A world that meets the condition: the settled one, the words laid. -/
noncomputable def laidWorld (os : Os) : World :=
  let w0 := World.holding Tryd.prog os ⟨#[], #[], []⟩
  { w0 with heap := w0.heap.modify 0 fun
      | .cells _ t frozen => .cells #[.string ⟨#[97]⟩, .string ⟨#[98]⟩, .string ⟨#[97, 100, 100]⟩, .string ⟨#[120]⟩, .string ⟨#[102, 111, 111]⟩, .string ⟨#[]⟩, .string ⟨#[112, 111, 112]⟩, .string ⟨#[70, 111, 110, 116]⟩] t frozen
      | o => o }

def arg0 : Array Value := #[.agg #[.slice none 0 0, .slice none 0 0, .slice none 0 0], .agg #[.int .u8 0, .int .u8 0, .int .u8 0, .int .i32 0, .string ⟨#[]⟩, .int .u8 0, .int .u8 0, .int .u8 0, .int .i32 0, .string ⟨#[]⟩, .int .u8 0, .int .u8 0, .int .u8 0, .int .i32 0, .string ⟨#[]⟩, .int .u8 0, .int .u8 0, .int .u8 0, .int .i32 0, .string ⟨#[]⟩], .int .u8 0, .string ⟨#[]⟩]

theorem laidWorld_in (os : Os) : Go.LaidIn Tryd.prog ((laidWorld os).forCall (fun _ _ => 0) ⟨#[], arg0, []⟩).memory Rows.heapKeepsRow.laid [0] :=
  Go.LaidIn.of_run [0] 10 (by kernel_rfl) (by kernel_rfl) (by kernel_rfl) (by kernel_rfl)

theorem laidWorld_met (os : Os) : laidMetH Tryd.prog Rows.heapKeepsRow.laid ((laidWorld os).forCall (fun _ _ => 0) ⟨#[], arg0, []⟩).memory :=
  laidMetH_of_parts (Go.LaidIn.met (laidWorld_in os)) (by kernel_rfl)

set_option maxRecDepth 100000 in
theorem lifted (os : Os) (started : os.Started) (H : Type) (enc : TypeId × Value → H) :
    ReturnsInHanded {} Tryd.checked os 9 .any (fun w args => (Rows.heapKeepsSpec.pre enc Tryd.prog Tryd.f9 Rows.heapKeepsRow.domain false w args ∧ laidMetH Tryd.prog Rows.heapKeepsRow.laid w) ∧ sizedMet enc Tryd.prog Tryd.f9 (OpenSpec.ofChange Rows.heapKeepsSpec) false w args)
      (Rows.heapKeepsSpec.post enc Tryd.prog Tryd.f9 false true false false) := by
  refine returnsInHanded_of_change_and (C := Tryd.checked) (X := fun w _ => laidMetH Tryd.prog Rows.heapKeepsRow.laid w) (fun _ _ _ hh h => h.of_heap hh) own started (by kernel_rfl) Tryd.func9
    (ChangeSpec.witness_at (enc := enc) (C := Tryd.checked) (os := os) (X := fun w _ => laidMetH Tryd.prog Rows.heapKeepsRow.laid w) false (laidWorld os) arg0 8 rfl (by kernel_rfl) (by kernel_rfl) (by kernel_rfl) (by kernel_rfl) (by kernel_rfl) (laidWorld_met os)) ?_
  intro W base args ds gs before hval hW _ _ hX _
  exact law_calls (P := Tryd.prog) (tb := 4) (tys := tys) (G := G) (by kernel_rfl) (by kernel_rfl) (by kernel_rfl) rfl rfl Tryd.underlying4
    (fun ds hds => by match ds, hds with | [d0, d1, d2, d3], _ => rfl) hval hW (globs W hX) law

theorem over : Rows.heapKeepsRow.holds Tryd.pinned (OpenSpec.ofChange Rows.heapKeepsSpec) :=
  OpenClaim.holds_of_wide 9 Tryd.f9 rfl rfl rfl rfl rfl rfl rfl ⟨rfl, rfl, rfl, rfl, rfl⟩ rfl rfl rfl rfl rfl (by kernel_rfl) Tryd.func9 (by kernel_rfl)
    (of_decide_eq_true (by kernel_rfl)) (by unfold Func.isWrapper; first | (rw [if_pos (by decide +kernel)]; kernel_rfl) | (rw [if_neg (by decide +kernel)]; exact ⟨rfl, rfl⟩))
    (fun os started H enc _ => lifted os started H enc)

theorem card (h : Rows.heapKeepsRow.holds Tryd.pinned (OpenSpec.ofChange Rows.heapKeepsSpec)) : Rows.HeapKeepsCardSaid :=
  Claim7.holds_tied_plain_at .later [] [.data] true (true, "89cad0a99b24306b17739309c76a094d448346d7c8813182288f7d14a9890ada") false
    h (fun _ h => by cases h) (by kernel_rfl) (fun _ h => by cases h) heapKeeps_row_tie rfl ⟨rfl, rfl⟩ (by kernel_rfl) rfl
    (fun f fn hf hfn => by
      obtain rfl : f = 9 := Option.some.inj ((show Tryd.prog.funcNamed "chase/chaselaw11.HeapKeeps" = some 9 by kernel_rfl).symm.trans hf) |>.symm
      obtain rfl : fn = Tryd.f9 := (Option.some.inj (Tryd.func9.symm.trans hfn)).symm
      exact ⟨by kernel_rfl, fun j t ht => by
        rw [Tryd.params9] at ht
        match j, ht with
        | 0, ht => cases ht; exact (show Tryd.prog.wantsStandIn _ = false by kernel_rfl)
        | 1, ht => cases ht; exact (show Tryd.prog.wantsStandIn _ = false by kernel_rfl)
        | 2, ht => cases ht; exact (show Tryd.prog.wantsStandIn _ = false by kernel_rfl)
        | 3, ht => cases ht; exact (show Tryd.prog.wantsStandIn _ = false by kernel_rfl)⟩)
    (by kernel_rfl)

theorem proved : Rows.HeapKeepsCardSaid := card over
end Go.Proofs.YtngmifmcohmfmaaDoor.heapKeeps

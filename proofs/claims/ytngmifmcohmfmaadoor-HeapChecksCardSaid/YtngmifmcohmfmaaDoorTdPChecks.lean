/- For every list of cells, draft, cell, object and word, HeapChecks of the package chaselaw11 returns true: Check, Size, Total, Fits and New agree with the definitions for every heap, cell and object.
Conditions: none beyond the given card's (the package's variable Words holds what the program's text lays). -/
import Derived.Test.YtngmifmcohmfmaaDoorTdVk
import Derived.Test.YtngmifmcohmfmaaDoorTdAr4
import Derived.Test.YtngmifmcohmfmaaDoorAbGl
import Derived.Test.YtngmifmcohmfmaaDoorTdLaid
import Derived.Test.YtngmifmcohmfmaaDoorCards
import Derived.Test.YtngmifmcohmfmaaDoorTie
import Derived.Test.YtngmifmcohmfmaaDoorChecked
import Derived.OpenShut
import Derived.LaidLaws
import Derived.LaidHandle
import Derived.Lib.LaidIn
import Derived.SevenTiedAt
namespace Go.Proofs.YtngmifmcohmfmaaDoor.heapChecks
open Go.ChangeShapes Go.WideShapes Go.ChangeAt Go.RowKit Go.Ab Go.Ab.Td

theorem own : ownKnob Tryd.prog.godebug = none := by kernel_rfl
def tys : List (Bool × List Ty) := [(false, [.sl cellTy]), (true, draftTy), (true, cellTy), (true, objTy), (true, wordTy)]

theorem law (ps : List PV) (h : ArgsHave tys ps) : OkC Tryd.prog G 5 ps [] (.bool true) := by
  unfold tys at h
  cases h with
  | cons h1 h =>
  cases h with
  | cons h2 h =>
  cases h with
  | cons h3 h =>
  cases h with
  | cons h4 h =>
  cases h with
  | cons h5 h =>
    cases h
    obtain ⟨x0, rfl, b1⟩ := hasCellsN h1
    obtain ⟨cells, ops, dicts, rfl, a1, a2, a3⟩ := hasDraftN h2
    obtain ⟨c0, rfl, b3⟩ := hasClA h3
    obtain ⟨o, rfl, ho⟩ := hasObA h4
    obtain ⟨w, rfl⟩ := hasWd1 h5
    exact ok_law11_HeapChecks laid x0 b1 cells ops dicts a1 c0 b3 o ho w

theorem globs (W : World) (h : laidMetH Tryd.prog Rows.heapChecksRow.laid W) : GlobOk Tryd.prog G W (Iall W) := by
  refine ⟨fun i cs hi => ?_, fun _ _ h => by cases h⟩
  have h' : laidMet Tryd.prog [("chase/chaseref11.Words", .agg (([[97], [98], [97, 100, 100], [120], [102, 111, 111], [], [112, 111, 112], [70, 111, 110, 116]] : List (List UInt8)).map fun s => .lit (.string s)))] W := h
  have hw := glob_strs (g := 0) (t := 155) (e := 9) (by kernel_rfl) (by kernel_rfl) (by kernel_rfl) (by kernel_rfl) (by kernel_rfl) (by kernel_rfl) h'
  match i, hi with
  | 0, hi => cases hi; exact hw

/-- A world that meets the condition: the settled one, the words laid. -/
noncomputable def laidWorld (os : Os) : World :=
  let w0 := World.holding Tryd.prog os ⟨#[], #[], []⟩
  { w0 with heap := w0.heap.modify 0 fun
      | .cells _ t frozen => .cells #[.string ⟨#[97]⟩, .string ⟨#[98]⟩, .string ⟨#[97, 100, 100]⟩, .string ⟨#[120]⟩, .string ⟨#[102, 111, 111]⟩, .string ⟨#[]⟩, .string ⟨#[112, 111, 112]⟩, .string ⟨#[70, 111, 110, 116]⟩] t frozen
      | o => o }

def arg0 : Array Value := #[.slice none 0 0, .agg #[.slice none 0 0, .slice none 0 0, .slice none 0 0], .agg #[.int .i64 0, .string ⟨#[]⟩, .slice none 0 0, .slice none 0 0, .slice none 0 0, .int .i64 0, .int .i64 0], .agg #[.int .i64 0, .bool false, .int .i64 0, .string ⟨#[]⟩, .int .i64 0, .int .i64 0, .int .i64 0], .agg #[.int .u8 0, .int .u8 0, .int .u8 0, .int .i32 0, .string ⟨#[]⟩]]

theorem laidWorld_in (os : Os) : Go.LaidIn Tryd.prog ((laidWorld os).forCall (fun _ _ => 0) ⟨#[], arg0, []⟩).memory Rows.heapChecksRow.laid [0] :=
  Go.LaidIn.of_run [0] 10 (by kernel_rfl) (by kernel_rfl) (by kernel_rfl) (by kernel_rfl)

theorem laidWorld_met (os : Os) : laidMetH Tryd.prog Rows.heapChecksRow.laid ((laidWorld os).forCall (fun _ _ => 0) ⟨#[], arg0, []⟩).memory :=
  laidMetH_of_parts (Go.LaidIn.met (laidWorld_in os)) (by kernel_rfl)

set_option maxRecDepth 100000 in
theorem lifted (os : Os) (started : os.Started) (H : Type) (enc : TypeId × Value → H) :
    ReturnsInHanded {} Tryd.checked os 5 .any (fun w args => (Rows.heapChecksSpec.pre enc Tryd.prog Tryd.f5 Rows.heapChecksRow.domain false w args ∧ laidMetH Tryd.prog Rows.heapChecksRow.laid w) ∧ sizedMet enc Tryd.prog Tryd.f5 (OpenSpec.ofChange Rows.heapChecksSpec) false w args)
      (Rows.heapChecksSpec.post enc Tryd.prog Tryd.f5 false true false false) := by
  refine returnsInHanded_of_change_and (C := Tryd.checked) (X := fun w _ => laidMetH Tryd.prog Rows.heapChecksRow.laid w) (fun _ _ _ hh h => h.of_heap hh) own started (by kernel_rfl) Tryd.func5
    (ChangeSpec.witness_at (enc := enc) (C := Tryd.checked) (os := os) (X := fun w _ => laidMetH Tryd.prog Rows.heapChecksRow.laid w) false (laidWorld os) arg0 8 rfl (by kernel_rfl) (by kernel_rfl) (by kernel_rfl) (by kernel_rfl) (by kernel_rfl) (laidWorld_met os)) ?_
  intro W base args ds gs before hval hW _ _ hX _
  exact law_calls (P := Tryd.prog) (tb := 4) (tys := tys) (G := G) (by kernel_rfl) (by kernel_rfl) (by kernel_rfl) rfl rfl Tryd.underlying4
    (fun ds hds => by match ds, hds with | [d0, d1, d2, d3, d4], _ => rfl) hval hW (globs W hX) law

theorem over : Rows.heapChecksRow.holds Tryd.pinned (OpenSpec.ofChange Rows.heapChecksSpec) :=
  OpenClaim.holds_of_wide 5 Tryd.f5 rfl rfl rfl rfl rfl rfl rfl ⟨rfl, rfl, rfl, rfl, rfl⟩ rfl rfl rfl rfl rfl (by kernel_rfl) Tryd.func5 (by kernel_rfl)
    (of_decide_eq_true (by kernel_rfl)) (by unfold Func.isWrapper; first | (rw [if_pos (by decide +kernel)]; kernel_rfl) | (rw [if_neg (by decide +kernel)]; exact ⟨rfl, rfl⟩))
    (fun os started H enc _ => lifted os started H enc)

theorem card (h : Rows.heapChecksRow.holds Tryd.pinned (OpenSpec.ofChange Rows.heapChecksSpec)) : Rows.HeapChecksCardSaid :=
  Claim7.holds_tied_plain_at .later [] [.data] true (true, "89cad0a99b24306b17739309c76a094d448346d7c8813182288f7d14a9890ada") false
    h (fun _ h => by cases h) (by kernel_rfl) (fun _ h => by cases h) heapChecks_row_tie rfl ⟨rfl, rfl⟩ (by kernel_rfl) rfl
    (fun f fn hf hfn => by
      obtain rfl : f = 5 := Option.some.inj ((show Tryd.prog.funcNamed "chase/chaselaw11.HeapChecks" = some 5 by kernel_rfl).symm.trans hf) |>.symm
      obtain rfl : fn = Tryd.f5 := (Option.some.inj (Tryd.func5.symm.trans hfn)).symm
      exact ⟨by kernel_rfl, fun j t ht => by
        rw [Tryd.params5] at ht
        match j, ht with
        | 0, ht => cases ht; exact (show Tryd.prog.wantsStandIn _ = false by kernel_rfl)
        | 1, ht => cases ht; exact (show Tryd.prog.wantsStandIn _ = false by kernel_rfl)
        | 2, ht => cases ht; exact (show Tryd.prog.wantsStandIn _ = false by kernel_rfl)
        | 3, ht => cases ht; exact (show Tryd.prog.wantsStandIn _ = false by kernel_rfl)
        | 4, ht => cases ht; exact (show Tryd.prog.wantsStandIn _ = false by kernel_rfl)⟩)
    (by kernel_rfl)

theorem proved : Rows.HeapChecksCardSaid := card over
end Go.Proofs.YtngmifmcohmfmaaDoor.heapChecks

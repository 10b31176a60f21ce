/- For every draft and two octets, SaveNests of the package chaselaw19 returns true: restoring one of several saves ends it and all later ones, and no earlier one.
Conditions: none beyond the given card's (the package's variable Words holds what the program's text lays). -/
import Derived.Test.YtngmifmcohmfmaaDoorTdSi
import Derived.Test.YtngmifmcohmfmaaDoorAbGl
import Derived.Test.YtngmifmcohmfmaaDoorTdLaid
import Derived.Test.YtngmifmcohmfmaaDoorCards
import Derived.Test.YtngmifmcohmfmaaDoorTie
import Derived.Test.YtngmifmcohmfmaaDoorChecked
import Derived.OpenShut
import Derived.LaidLaws
import Derived.LaidHandle
import Derived.Lib.LaidIn
import Derived.SevenTiedAt
namespace Go.Proofs.YtngmifmcohmfmaaDoor.saveNests
open Go.ChangeShapes Go.WideShapes Go.ChangeAt Go.RowKit Go.Ab Go.Ab.Td

theorem own : ownKnob Tryd.prog.godebug = none := by kernel_rfl
def tys : List (Bool × List Ty) := [(true, draftTy), (false, [.int .u8]), (false, [.int .u8])]

theorem law (ps : List PV) (h : ArgsHave tys ps) : OkC Tryd.prog G 4 ps [] (.bool true) := by
  unfold tys at h
  cases h with
  | cons h1 h =>
  cases h with
  | cons h2 h =>
  cases h with
  | cons h3 h =>
    cases h
    obtain ⟨cells, ops, dicts, rfl, a1, a2, a3⟩ := hasDraft h1
    obtain ⟨k1, rfl, c1, c2⟩ := hasU8 h2
    obtain ⟨n1, rfl, c3, c4⟩ := hasU8 h3
    exact ok_law19_SaveNests laid cells ops dicts a1 a2 a3 k1 n1 ⟨c1, c2⟩ ⟨c3, c4⟩

theorem globs (W : World) (h : laidMetH Tryd.prog Rows.saveNestsRow.laid W) : GlobOk Tryd.prog G W (Iall W) := by
  refine ⟨fun i cs hi => ?_, fun _ _ h => by cases h⟩
  have h' : laidMet Tryd.prog [("chase/chaseref11.Words", .agg (([[97], [98], [97, 100, 100], [120], [102, 111, 111], [], [112, 111, 112], [70, 111, 110, 116]] : List (List UInt8)).map fun s => .lit (.string s)))] W := h
  have hw := glob_strs (g := 0) (t := 155) (e := 9) (by kernel_rfl) (by kernel_rfl) (by kernel_rfl) (by kernel_rfl) (by kernel_rfl) (by kernel_rfl) h'
  match i, hi with
  | 0, hi => cases hi; exact hw

/-- A world that meets the condition: the settled one, the words laid. -/
noncomputable def laidWorld (os : Os) : World :=
  let w0 := World.holding Tryd.prog os ⟨#[], #[], []⟩
  { w0 with heap := w0.heap.modify 0 fun
      | .cells _ t frozen => .cells #[.string ⟨#[97]⟩, .string ⟨#[98]⟩, .string ⟨#[97, 100, 100]⟩, .string ⟨#[120]⟩, .string ⟨#[102, 111, 111]⟩, .string ⟨#[]⟩, .string ⟨#[112, 111, 112]⟩, .string ⟨#[70, 111, 110, 116]⟩] t frozen
      | o => o }

def arg0 : Array Value := #[.agg #[.slice none 0 0, .slice none 0 0, .slice none 0 0], .int .u8 0, .int .u8 0]

theorem laidWorld_in (os : Os) : Go.LaidIn Tryd.prog ((laidWorld os).forCall (fun _ _ => 0) ⟨#[], arg0, []⟩).memory Rows.saveNestsRow.laid [0] :=
  Go.LaidIn.of_run [0] 10 (by kernel_rfl) (by kernel_rfl) (by kernel_rfl) (by kernel_rfl)

theorem laidWorld_met (os : Os) : laidMetH Tryd.prog Rows.saveNestsRow.laid ((laidWorld os).forCall (fun _ _ => 0) ⟨#[], arg0, []⟩).memory :=
  laidMetH_of_parts (Go.LaidIn.met (laidWorld_in os)) (by kernel_rfl)

set_option maxRecDepth 100000 in
theorem lifted (os : Os) (started : os.Started) (H : Type) (enc : TypeId × Value → H) :
    ReturnsInHanded {} Tryd.checked os 4 .any (fun w args => (Rows.saveNestsSpec.pre enc Tryd.prog Tryd.f4 Rows.saveNestsRow.domain false w args ∧ laidMetH Tryd.prog Rows.saveNestsRow.laid w) ∧ sizedMet enc Tryd.prog Tryd.f4 (OpenSpec.ofChange Rows.saveNestsSpec) false w args)
      (Rows.saveNestsSpec.post enc Tryd.prog Tryd.f4 false true false false) := by
  refine returnsInHanded_of_change_and (C := Tryd.checked) (X := fun w _ => laidMetH Tryd.prog Rows.saveNestsRow.laid w) (fun _ _ _ hh h => h.of_heap hh) own started (by kernel_rfl) Tryd.func4
    (ChangeSpec.witness_at (enc := enc) (C := Tryd.checked) (os := os) (X := fun w _ => laidMetH Tryd.prog Rows.saveNestsRow.laid w) false (laidWorld os) arg0 8 rfl (by kernel_rfl) (by kernel_rfl) (by kernel_rfl) (by kernel_rfl) (by kernel_rfl) (laidWorld_met os)) ?_
  intro W base args ds gs before hval hW _ _ hX _
  exact law_calls (P := Tryd.prog) (tb := 4) (tys := tys) (G := G) (by kernel_rfl) (by kernel_rfl) (by kernel_rfl) rfl rfl Tryd.underlying4
    (fun ds hds => by match ds, hds with | [d0, d1, d2], _ => rfl) hval hW (globs W hX) law

theorem over : Rows.saveNestsRow.holds Tryd.pinned (OpenSpec.ofChange Rows.saveNestsSpec) :=
  OpenClaim.holds_of_wide 4 Tryd.f4 rfl rfl rfl rfl rfl rfl rfl ⟨rfl, rfl, rfl, rfl, rfl⟩ rfl rfl rfl rfl rfl (by kernel_rfl) Tryd.func4 (by kernel_rfl)
    (of_decide_eq_true (by kernel_rfl)) (by unfold Func.isWrapper; first | (rw [if_pos (by decide +kernel)]; kernel_rfl) | (rw [if_neg (by decide +kernel)]; exact ⟨rfl, rfl⟩))
    (fun os started H enc _ => lifted os started H enc)

theorem card (h : Rows.saveNestsRow.holds Tryd.pinned (OpenSpec.ofChange Rows.saveNestsSpec)) : Rows.SaveNestsCardSaid :=
  Claim7.holds_tied_plain_at .later [] [.data] true (true, "89cad0a99b24306b17739309c76a094d448346d7c8813182288f7d14a9890ada") false
    h (fun _ h => by cases h) (by kernel_rfl) (fun _ h => by cases h) saveNests_row_tie rfl ⟨rfl, rfl⟩ (by kernel_rfl) rfl
    (fun f fn hf hfn => by
      obtain rfl : f = 4 := Option.some.inj ((show Tryd.prog.funcNamed "chase/chaselaw19.SaveNests" = some 4 by kernel_rfl).symm.trans hf) |>.symm
      obtain rfl : fn = Tryd.f4 := (Option.some.inj (Tryd.func4.symm.trans hfn)).symm
      exact ⟨by kernel_rfl, fun j t ht => by
        rw [Tryd.params4] at ht
        match j, ht with
        | 0, ht => cases ht; exact (show Tryd.prog.wantsStandIn _ = false by kernel_rfl)
        | 1, ht => cases ht; exact (show Tryd.prog.wantsStandIn _ = false by kernel_rfl)
        | 2, ht => cases ht; exact (show Tryd.prog.wantsStandIn _ = false by kernel_rfl)⟩)
    (by kernel_rfl)

theorem proved : Rows.SaveNestsCardSaid := card over
end Go.Proofs.YtngmifmcohmfmaaDoor.saveNests

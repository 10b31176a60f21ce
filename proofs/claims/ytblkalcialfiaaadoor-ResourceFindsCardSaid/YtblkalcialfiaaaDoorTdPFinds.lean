/- For every draft, list of words, string and object, ResourceFinds of the package chaselaw18 returns true: Find returns the defined resource, or the defined error, for every category and key.
Conditions: none beyond the given card's (the package's variable Words holds what the program's text lays). -/
import Derived.Test.YtblkalcialfiaaaDoorTdLf
import Derived.Test.YtblkalcialfiaaaDoorTdAr3
import Derived.Test.YtblkalcialfiaaaDoorAbGl
import Derived.Test.YtblkalcialfiaaaDoorTdLaid
import Derived.Test.YtblkalcialfiaaaDoorCards
import Derived.Test.YtblkalcialfiaaaDoorTie
import Derived.Test.YtblkalcialfiaaaDoorChecked
import Derived.OpenShut
import Derived.LaidLaws
import Derived.LaidHandle
import Derived.Lib.LaidIn
import Derived.SevenTiedAt
namespace Go.Proofs.YtblkalcialfiaaaDoor.resourceFinds
open Go.ChangeShapes Go.WideShapes Go.ChangeAt Go.RowKit Go.Ab Go.Ab.Td

theorem own : ownKnob Tryd.prog.godebug = none := by kernel_rfl
def tys : List (Bool × List Ty) := [(true, draftTy), (false, [.sl wordTy]), (false, [.str]), (true, objTy)]

theorem law (ps : List PV) (h : ArgsHave tys ps) : OkC Tryd.prog G 8 ps [] (.bool true) := by
  unfold tys at h
  cases h with
  | cons h1 h =>
  cases h with
  | cons h2 h =>
  cases h with
  | cons h3 h =>
  cases h with
  | cons h4 h =>
    cases h
    obtain ⟨cells, ops, dicts, rfl, a1, a2, a3⟩ := hasDraft h1
    obtain ⟨ws, rfl⟩ := hasWds h2
    obtain ⟨c0, rfl, _⟩ := hasStr h3
    obtain ⟨k0, rfl, _⟩ := hasObA h4
    exact ok_law18_ResourceFinds laid cells ops dicts a1 a2 a3 ws c0 k0

theorem globs (W : World) (h : laidMetH Tryd.prog Rows.resourceFindsRow.laid W) : GlobOk Tryd.prog G W (Iall W) := by
  refine ⟨fun i cs hi => ?_, fun _ _ h => by cases h⟩
  have h' : laidMet Tryd.prog [("chase/chaseref11.Words", .agg (([[97], [98], [97, 100, 100], [120], [102, 111, 111], [], [112, 111, 112], [70, 111, 110, 116]] : List (List UInt8)).map fun s => .lit (.string s)))] W := h
  have hw := glob_strs (g := 0) (t := 153) (e := 9) (by kernel_rfl) (by kernel_rfl) (by kernel_rfl) (by kernel_rfl) (by kernel_rfl) (by kernel_rfl) h'
  match i, hi with
  | 0, hi => cases hi; exact hw

/-- A world that meets the condition: the settled one, the words laid. -/
noncomputable def laidWorld (os : Os) : World :=
  let w0 := World.holding Tryd.prog os ⟨#[], #[], []⟩
  { w0 with heap := w0.heap.modify 0 fun
      | .cells _ t frozen => .cells #[.string ⟨#[97]⟩, .string ⟨#[98]⟩, .string ⟨#[97, 100, 100]⟩, .string ⟨#[120]⟩, .string ⟨#[102, 111, 111]⟩, .string ⟨#[]⟩, .string ⟨#[112, 111, 112]⟩, .string ⟨#[70, 111, 110, 116]⟩] t frozen
      | o => o }

def arg0 : Array Value := #[.agg #[.slice none 0 0, .slice none 0 0, .slice none 0 0], .slice none 0 0, .string ⟨#[]⟩, .agg #[.int .i64 0, .bool false, .int .i64 0, .string ⟨#[]⟩, .int .i64 0, .int .i64 0, .int .i64 0]]

theorem laidWorld_in (os : Os) : Go.LaidIn Tryd.prog ((laidWorld os).forCall (fun _ _ => 0) ⟨#[], arg0, []⟩).memory Rows.resourceFindsRow.laid [0] :=
  Go.LaidIn.of_run [0] 10 (by kernel_rfl) (by kernel_rfl) (by kernel_rfl) (by kernel_rfl)

theorem laidWorld_met (os : Os) : laidMetH Tryd.prog Rows.resourceFindsRow.laid ((laidWorld os).forCall (fun _ _ => 0) ⟨#[], arg0, []⟩).memory :=
  laidMetH_of_parts (Go.LaidIn.met (laidWorld_in os)) (by kernel_rfl)

set_option maxRecDepth 100000 in
theorem lifted (os : Os) (started : os.Started) (H : Type) (enc : TypeId × Value → H) :
    ReturnsInHanded {} Tryd.checked os 8 .any (fun w args => (Rows.resourceFindsSpec.pre enc Tryd.prog Tryd.f8 Rows.resourceFindsRow.domain false w args ∧ laidMetH Tryd.prog Rows.resourceFindsRow.laid w) ∧ sizedMet enc Tryd.prog Tryd.f8 (OpenSpec.ofChange Rows.resourceFindsSpec) false w args)
      (Rows.resourceFindsSpec.post enc Tryd.prog Tryd.f8 false true false false) := by
  refine returnsInHanded_of_change_and (C := Tryd.checked) (X := fun w _ => laidMetH Tryd.prog Rows.resourceFindsRow.laid w) (fun _ _ _ hh h => h.of_heap hh) own started (by kernel_rfl) Tryd.func8
    (ChangeSpec.witness_at (enc := enc) (C := Tryd.checked) (os := os) (X := fun w _ => laidMetH Tryd.prog Rows.resourceFindsRow.laid w) false (laidWorld os) arg0 8 rfl (by kernel_rfl) (by kernel_rfl) (by kernel_rfl) (by kernel_rfl) (by kernel_rfl) (laidWorld_met os)) ?_
  intro W base args ds gs before hval hW _ _ hX _
  exact law_calls (P := Tryd.prog) (tb := 4) (tys := tys) (G := G) (by kernel_rfl) (by kernel_rfl) (by kernel_rfl) rfl rfl Tryd.underlying4
    (fun ds hds => by match ds, hds with | [d0, d1, d2, d3], _ => rfl) hval hW (globs W hX) law

theorem over : Rows.resourceFindsRow.holds Tryd.pinned (OpenSpec.ofChange Rows.resourceFindsSpec) :=
  OpenClaim.holds_of_wide 8 Tryd.f8 rfl rfl rfl rfl rfl rfl rfl ⟨rfl, rfl, rfl, rfl, rfl⟩ rfl rfl rfl rfl rfl (by kernel_rfl) Tryd.func8 (by kernel_rfl)
    (of_decide_eq_true (by kernel_rfl)) (by unfold Func.isWrapper; first | (rw [if_pos (by decide +kernel)]; kernel_rfl) | (rw [if_neg (by decide +kernel)]; exact ⟨rfl, rfl⟩))
    (fun os started H enc _ => lifted os started H enc)

theorem card (h : Rows.resourceFindsRow.holds Tryd.pinned (OpenSpec.ofChange Rows.resourceFindsSpec)) : Rows.ResourceFindsCardSaid :=
  Claim7.holds_tied_plain_at .later [] [.data] true (true, "e028fa55640ee12f8adcd8f818612ea1c8a84bf941ad4efd8bb589c0aae80e1b") false
    h (fun _ h => by cases h) (by kernel_rfl) (fun _ h => by cases h) resourceFinds_row_tie rfl ⟨rfl, rfl⟩ (by kernel_rfl) rfl
    (fun f fn hf hfn => by
      obtain rfl : f = 8 := Option.some.inj ((show Tryd.prog.funcNamed "chase/chaselaw18.ResourceFinds" = some 8 by kernel_rfl).symm.trans hf) |>.symm
      obtain rfl : fn = Tryd.f8 := (Option.some.inj (Tryd.func8.symm.trans hfn)).symm
      exact ⟨by kernel_rfl, fun j t ht => by
        rw [Tryd.params8] at ht
        match j, ht with
        | 0, ht => cases ht; exact (show Tryd.prog.wantsStandIn _ = false by kernel_rfl)
        | 1, ht => cases ht; exact (show Tryd.prog.wantsStandIn _ = false by kernel_rfl)
        | 2, ht => cases ht; exact (show Tryd.prog.wantsStandIn _ = false by kernel_rfl)
        | 3, ht => cases ht; exact (show Tryd.prog.wantsStandIn _ = false by kernel_rfl)⟩)
    (by kernel_rfl)

theorem proved : Rows.ResourceFindsCardSaid := card over
end Go.Proofs.YtblkalcialfiaaaDoor.resourceFinds

/- For every number, string and octet, FaultNames of the package chaselaw40 returns true: Name and Of agree with the definitions.
Conditions: none beyond the given card's (three variables of the library's own read as the program's text lays them). -/
import Derived.Test.YtnecjlmfpnbooaaGreatDoorAbG6
import Derived.Test.YtnecjlmfpnbooaaGreatDoorFnRoot
import Derived.Test.YtnecjlmfpnbooaaGreatDoorFnClosed
import Derived.Test.YtnecjlmfpnbooaaGreatDoorCards
import Derived.Test.YtnecjlmfpnbooaaGreatDoorTie
import Derived.OpenShut
import Derived.LaidLaws
import Derived.LaidHandle
import Derived.Lib.LaidIn
import Derived.SevenTiedAt
namespace Go.Proofs.YtnecjlmfpnbooaaGreatDoor.faultNames
open Go.ChangeShapes Go.WideShapes Go.ChangeAt Go.RowKit Go.Ab Go.Ab.Fn

theorem own : ownKnob Tryz.prog.godebug = none := by kernel_rfl

def tys : List (Bool × List Ty) := [(false, [.int .i64]), (false, [.str]), (false, [.int .u8])]

theorem law (ps : List PV) (h : ArgsHave tys ps) : OkC Tryz.prog noG 3 ps [] (.bool true) := by
  unfold tys at h
  cases h with
  | cons h1 h =>
  cases h with
  | cons h2 h =>
  cases h with
  | cons h3 h =>
    cases h
    obtain ⟨q1, e1, l1, g1⟩ := h1
    obtain ⟨q2, e2, l2, g2⟩ := h2
    obtain ⟨q3, e3, l3, g3⟩ := h3
    simp only [cellsIs] at e1 e2 e3
    subst e1
    subst e2
    subst e3
    have k1 := g1 0 _ _ rfl rfl
    have k2 := g2 0 _ _ rfl rfl
    have k3 := g3 0 _ _ rfl rfl
    cases k1 with
    | int w1 =>
    cases k2 with
    | str w2 =>
    cases k3 with
    | int w3 =>
      refine toOk (c := c3) rfl rfl (root _ _ _ _ ?_ ok4 ok_ref okName okOf)
      simp only [Lit.wf, Bool.and_eq_true, IntKind.min, IntKind.max, IntKind.signed, IntKind.bits] at w3
      simp at w3
      omega

theorem globs (W : World) : GlobOk Tryz.prog noG W (Iall W) := ⟨fun _ _ h => (by cases h), primOk⟩

/-- A world that meets the condition: the settled one, the three tables laid. -/
noncomputable def laidWorld (os : Os) : World :=
  let w0 := World.holding Tryz.prog os ⟨#[], #[], []⟩
  { w0 with heap := ((w0.heap.modify 0 fun
      | .cells _ t frozen => .cells #[.int .u64 1, .int .u64 10, .int .u64 100, .int .u64 1000, .int .u64 10000, .int .u64 100000, .int .u64 1000000, .int .u64 10000000, .int .u64 100000000, .int .u64 1000000000, .int .u64 10000000000, .int .u64 100000000000, .int .u64 1000000000000, .int .u64 10000000000000, .int .u64 100000000000000, .int .u64 1000000000000000, .int .u64 10000000000000000, .int .u64 100000000000000000, .int .u64 1000000000000000000, .int .u64 10000000000000000000] t frozen
      | o => o).modify 1 fun
      | .cells _ t frozen => .cells #[.int .u8 0, .int .u8 1, .int .u8 28, .int .u8 2, .int .u8 29, .int .u8 14, .int .u8 24, .int .u8 3, .int .u8 30, .int .u8 22, .int .u8 20, .int .u8 15, .int .u8 25, .int .u8 17, .int .u8 4, .int .u8 8, .int .u8 31, .int .u8 27, .int .u8 13, .int .u8 23, .int .u8 21, .int .u8 19, .int .u8 16, .int .u8 7, .int .u8 26, .int .u8 12, .int .u8 18, .int .u8 6, .int .u8 11, .int .u8 5, .int .u8 10, .int .u8 9] t frozen
      | o => o).modify 2 fun
      | .cells _ t frozen => .cells #[.int .u8 0, .int .u8 1, .int .u8 56, .int .u8 2, .int .u8 57, .int .u8 49, .int .u8 28, .int .u8 3, .int .u8 61, .int .u8 58, .int .u8 42, .int .u8 50, .int .u8 38, .int .u8 29, .int .u8 17, .int .u8 4, .int .u8 62, .int .u8 47, .int .u8 59, .int .u8 36, .int .u8 45, .int .u8 43, .int .u8 51, .int .u8 22, .int .u8 53, .int .u8 39, .int .u8 33, .int .u8 30, .int .u8 24, .int .u8 18, .int .u8 12, .int .u8 5, .int .u8 63, .int .u8 55, .int .u8 48, .int .u8 27, .int .u8 60, .int .u8 41, .int .u8 37, .int .u8 16, .int .u8 46, .int .u8 35, .int .u8 44, .int .u8 21, .int .u8 52, .int .u8 32, .int .u8 23, .int .u8 11, .int .u8 54, .int .u8 26, .int .u8 40, .int .u8 15, .int .u8 34, .int .u8 20, .int .u8 31, .int .u8 10, .int .u8 25, .int .u8 14, .int .u8 19, .int .u8 9, .int .u8 13, .int .u8 8, .int .u8 7, .int .u8 6] t frozen
      | o => o }

def arg0 : Array Value := #[.int .i64 0, .string ⟨#[]⟩, .int .u8 0]

theorem laidWorld_in (os : Os) : Go.LaidIn Tryz.prog ((laidWorld os).forCall (fun _ _ => 0) ⟨#[], arg0, []⟩).memory Rows.faultNamesRow.laid [0, 1, 2] :=
  Go.LaidIn.of_run [0, 1, 2] 10 (by kernel_rfl) (by kernel_rfl) (by kernel_rfl) (by kernel_rfl)

theorem laidWorld_met (os : Os) : laidMetH Tryz.prog Rows.faultNamesRow.laid ((laidWorld os).forCall (fun _ _ => 0) ⟨#[], arg0, []⟩).memory :=
  laidMetH_of_parts (Go.LaidIn.met (laidWorld_in os)) (by kernel_rfl)

set_option maxRecDepth 100000 in
theorem lifted (os : Os) (started : os.Started) (H : Type) (enc : TypeId × Value → H) :
    ReturnsInHanded {} Tryz.checked os 3 .any (fun w args => (Rows.faultNamesSpec.pre enc Tryz.prog Tryz.f3 Rows.faultNamesRow.domain false w args ∧ laidMetH Tryz.prog Rows.faultNamesRow.laid w) ∧ sizedMet enc Tryz.prog Tryz.f3 (OpenSpec.ofChange Rows.faultNamesSpec) false w args)
      (Rows.faultNamesSpec.post enc Tryz.prog Tryz.f3 false true false false) := by
  refine returnsInHanded_of_change_and (C := Tryz.checked) (X := fun w _ => laidMetH Tryz.prog Rows.faultNamesRow.laid w) (fun _ _ _ hh h => h.of_heap hh) own started (by kernel_rfl) Tryz.func3
    (ChangeSpec.witness_at (enc := enc) (C := Tryz.checked) (os := os) (X := fun w _ => laidMetH Tryz.prog Rows.faultNamesRow.laid w) false (laidWorld os) arg0 8 rfl (by kernel_rfl) (by kernel_rfl) (by kernel_rfl) (by kernel_rfl) (by kernel_rfl) (laidWorld_met os)) ?_
  intro W base args ds gs before hval hW _ _ _ _
  exact law_calls (P := Tryz.prog) (tb := 4) (tys := tys) (G := noG) (by kernel_rfl) (by kernel_rfl) (by kernel_rfl) rfl rfl Tryz.underlying4
    (fun ds hds => by match ds, hds with | [d1, d2, d3], _ => rfl) hval hW (globs W) law

theorem over : Rows.faultNamesRow.holds Tryz.pinned (OpenSpec.ofChange Rows.faultNamesSpec) :=
  OpenClaim.holds_of_wide 3 Tryz.f3 rfl rfl rfl rfl rfl rfl rfl ⟨rfl, rfl, rfl, rfl, rfl⟩ rfl rfl rfl rfl rfl (by kernel_rfl) Tryz.func3 (by kernel_rfl)
    (of_decide_eq_true (by kernel_rfl)) (by unfold Func.isWrapper; first | (rw [if_pos (by decide +kernel)]; kernel_rfl) | (rw [if_neg (by decide +kernel)]; exact ⟨rfl, rfl⟩))
    (fun os started H enc _ => lifted os started H enc)

theorem card (h : Rows.faultNamesRow.holds Tryz.pinned (OpenSpec.ofChange Rows.faultNamesSpec)) : Rows.FaultNamesCardSaid :=
  Claim7.holds_tied_plain_at .later [] [.data, .data, .data] true (true, "e81932171a1c5469cea2040166ced66f3c2e378d3e3aa99e8cc050bc82b94ee9") false
    h (fun _ h => by cases h) (by kernel_rfl) (fun _ h => by cases h) faultNames_row_tie rfl ⟨rfl, rfl⟩ (by kernel_rfl) rfl
    (fun f fn hf hfn => by
      obtain rfl : f = 3 := Option.some.inj ((show Tryz.prog.funcNamed "chase/chaselaw40.FaultNames" = some 3 by kernel_rfl).symm.trans hf) |>.symm
      obtain rfl : fn = Tryz.f3 := (Option.some.inj (Tryz.func3.symm.trans hfn)).symm
      exact ⟨by kernel_rfl, fun j t ht => by
        rw [Tryz.params3] at ht
        match j, ht with
        | 0, ht => cases ht; exact (show Tryz.prog.wantsStandIn _ = false by kernel_rfl)
        | 1, ht => cases ht; exact (show Tryz.prog.wantsStandIn _ = false by kernel_rfl)
        | 2, ht => cases ht; exact (show Tryz.prog.wantsStandIn _ = false by kernel_rfl)⟩)
    (by kernel_rfl)

theorem proved : Rows.FaultNamesCardSaid := card over
end Go.Proofs.YtnecjlmfpnbooaaGreatDoor.faultNames

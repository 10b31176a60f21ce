/- The examples of the chapter on dictionaries (the closed law DictKnown) hold of the given program.
Conditions: none; the statement is the given one. -/
import Derived.Test.YthpnccneaaeomaaDkRun
import Derived.Test.YthpnccneaaeomaaRows
import Derived.WalkKit
import Derived.ProofKit
import Derived.OpenShut
namespace Go.Proofs.Ythpnccneaaeomaa.dictKnown
open Go.ChangeShapes Go.WideShapes Go.ChangeAt Go.RowKit Go.Ab
open Go.Ab.Dk (noG)

theorem own : ownKnob Try.prog.godebug = none := by kernel_rfl

theorem walk (h : OkC Try.prog noG 3 [] [] (.bool true)) (w : World) :
    Calls Try.prog 3 #[] w fun e w' => e = .returned (.bool true) ∧ Below w.heap.size w w' := by
  have hc := (h w (fun _ _ => False) #[] (fun _ _ h => h.elim) ⟨fun _ _ h => (by cases h), Go.Ab.Dk.primOk⟩ ⟨rfl, fun j x q h => by simp at h⟩).2
  refine (callsIn_wide.1 hc).mono fun e w' he => ?_
  cases e with
  | returned v =>
    obtain ⟨I', hb, _, _, hr⟩ := he
    obtain ⟨ι₁, _, hrep⟩ := hr 0
    exact ⟨congrArg Ending.returned (inv_bool hrep), hb⟩
  | panicked c => exact he.elim
  | outgrown => exact he.elim

set_option maxRecDepth 100000 in
theorem lifted (h : OkC Try.prog noG 3 [] [] (.bool true)) (os : Os) (started : os.Started) (H : Type) (enc : TypeId × Value → H) :
    ReturnsInHanded {} Try.checked os 3 .any (Rows.dictKnownSpec.pre6 enc Try.prog Try.f3 Rows.dictKnownRow.domain false) (Rows.dictKnownSpec.post enc Try.prog Try.f3 false true false false) := by
  refine returnsInHanded_of_change (C := Try.checked) own started (by kernel_rfl) Try.func3
    (ChangeSpec.witness6 (enc := enc) (C := Try.checked) false ⟨#[], #[], []⟩ 8 (by kernel_rfl) (by kernel_rfl) (by kernel_rfl) (by kernel_rfl)) ?_
  intro W base args ds gs before hval0 hW hcnd _
  have hval : ∀ (j : Nat) t v, Try.f3.params[j]? = some t → args[j]? = some v → Value.okWide Try.prog W .any base t v := hval0
  have hW' := hW
  obtain ⟨p, q, hA0, hV, rfl, hfz, hnd⟩ := hW
  have hA : DataW.TrodAll enc Try.prog W 0 (fun _ => true) true Try.f3.params.toList args.toList ds p := hA0
  rw [Try.params3] at hA hval
  obtain ⟨rfl, rfl, rfl⟩ := trodAll_none hA
  obtain ⟨rfl, rfl⟩ := trodVars_none hV
  clear hA0 hval0
  simp only [List.append_nil] at hW'
  refine (walk h W).mono fun e W' ⟨he, hg⟩ => ?_
  subst he
  exact ⟨_, rfl, post_of_below (pa := []) (pv := []) hW' (fun _ _ _ => (trodAll_cons_mk (shut_bool Try.underlying4 _) trodAll_mk0)) (fun sp _ => rfl) (fun _ _ => rfl) rfl
    hg (ok_one (by kernel_rfl) rfl (okWide_bool_mk Try.underlying4 _))⟩

theorem over (h : OkC Try.prog noG 3 [] [] (.bool true)) : Rows.dictKnownRow.holds Try.pinned (OpenSpec.ofChange Rows.dictKnownSpec) :=
  OpenClaim.holds_of_wide 3 Try.f3 rfl rfl rfl rfl rfl rfl rfl ⟨rfl, rfl, rfl, rfl, rfl⟩ rfl rfl rfl rfl rfl (by kernel_rfl) Try.func3 (by kernel_rfl)
    (of_decide_eq_true (by kernel_rfl)) (by unfold Func.isWrapper; first | (rw [if_pos (by decide +kernel)]; kernel_rfl) | (rw [if_neg (by decide +kernel)]; exact ⟨rfl, rfl⟩))
    (fun os started H enc _ => lifted h os started H enc)

theorem proved : Rows.DictKnownSaid := over Go.Ab.Dk.ok
end Go.Proofs.Ythpnccneaaeomaa.dictKnown

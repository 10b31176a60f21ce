/- The examples of the chapter on resources (the closed law ResourceKnown) hold of the given program.
Conditions: none; the statement is the given one. -/
import Derived.Test.YtdmfppodbpfbpaaRkRun
import Derived.Test.YtdmfppodbpfbpaaRows
import Derived.WalkKit
import Derived.ProofKit
import Derived.OpenShut
namespace Go.Proofs.Ytdmfppodbpfbpaa.resourceKnown
open Go.ChangeShapes Go.WideShapes Go.ChangeAt Go.RowKit Go.Ab
open Go.Ab.Rk (noG)

theorem own : ownKnob Try.prog.godebug = none := by kernel_rfl

theorem walk (h : OkC Try.prog noG 5 [] [] (.bool true)) (w : World) :
    Calls Try.prog 5 #[] w fun e w' => e = .returned (.bool true) ∧ Below w.heap.size w w' := by
  have hc := (h w (fun _ _ => False) #[] (fun _ _ h => h.elim) ⟨fun _ _ h => (by cases h), Go.Ab.Rk.primOk⟩ ⟨rfl, fun j x q h => by simp at h⟩).2
  refine (callsIn_wide.1 hc).mono fun e w' he => ?_
  cases e with
  | returned v =>
    obtain ⟨I', hb, _, _, hr⟩ := he
    obtain ⟨ι₁, _, hrep⟩ := hr 0
    exact ⟨congrArg Ending.returned (inv_bool hrep), hb⟩
  | panicked c => exact he.elim
  | outgrown => exact he.elim

set_option maxRecDepth 100000 in
theorem lifted (h : OkC Try.prog noG 5 [] [] (.bool true)) (os : Os) (started : os.Started) (H : Type) (enc : TypeId × Value → H) :
    ReturnsInHanded {} Try.checked os 5 .any (Rows.resourceKnownSpec.pre6 enc Try.prog Try.f5 Rows.resourceKnownRow.domain false) (Rows.resourceKnownSpec.post enc Try.prog Try.f5 false true false false) := by
  refine returnsInHanded_of_change (C := Try.checked) own started (by kernel_rfl) Try.func5
    (ChangeSpec.witness6 (enc := enc) (C := Try.checked) false ⟨#[], #[], []⟩ 8 (by kernel_rfl) (by kernel_rfl) (by kernel_rfl) (by kernel_rfl)) ?_
  intro W base args ds gs before hval0 hW hcnd _
  have hval : ∀ (j : Nat) t v, Try.f5.params[j]? = some t → args[j]? = some v → Value.okWide Try.prog W .any base t v := hval0
  have hW' := hW
  obtain ⟨p, q, hA0, hV, rfl, hfz, hnd⟩ := hW
  have hA : DataW.TrodAll enc Try.prog W 0 (fun _ => true) true Try.f5.params.toList args.toList ds p := hA0
  rw [Try.params5] at hA hval
  obtain ⟨rfl, rfl, rfl⟩ := trodAll_none hA
  obtain ⟨rfl, rfl⟩ := trodVars_none hV
  clear hA0 hval0
  simp only [List.append_nil] at hW'
  refine (walk h W).mono fun e W' ⟨he, hg⟩ => ?_
  subst he
  exact ⟨_, rfl, post_of_below (pa := []) (pv := []) hW' (fun _ _ _ => (trodAll_cons_mk (shut_bool Try.underlying4 _) trodAll_mk0)) (fun sp _ => rfl) (fun _ _ => rfl) rfl
    hg (ok_one (by kernel_rfl) rfl (okWide_bool_mk Try.underlying4 _))⟩

theorem over (h : OkC Try.prog noG 5 [] [] (.bool true)) : Rows.resourceKnownRow.holds Try.pinned (OpenSpec.ofChange Rows.resourceKnownSpec) :=
  OpenClaim.holds_of_wide 5 Try.f5 rfl rfl rfl rfl rfl rfl rfl ⟨rfl, rfl, rfl, rfl, rfl⟩ rfl rfl rfl rfl rfl (by kernel_rfl) Try.func5 (by kernel_rfl)
    (of_decide_eq_true (by kernel_rfl)) (by unfold Func.isWrapper; first | (rw [if_pos (by decide +kernel)]; kernel_rfl) | (rw [if_neg (by decide +kernel)]; exact ⟨rfl, rfl⟩))
    (fun os started H enc _ => lifted h os started H enc)

theorem proved : Rows.ResourceKnownSaid := over Go.Ab.Rk.ok
end Go.Proofs.Ytdmfppodbpfbpaa.resourceKnown

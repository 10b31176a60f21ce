/- The examples of the chapter on strings and arrays, and errors in their order (the closed law CompKnown), hold of the given program.
Conditions: none; the statement is the given one. -/
import Derived.Test.YthpnccneaaeomaaCkRun
import Derived.Test.YthpnccneaaeomaaRows
import Derived.WalkKit
import Derived.ProofKit
import Derived.OpenShut
import Derived.HandedShaped
namespace Go.Proofs.Ythpnccneaaeomaa.compKnown
open Go.ChangeShapes Go.WideShapes Go.ChangeAt Go.RowKit Go.Ab
open Go.Ab.Ck (mG)

theorem own : ownKnob Try.prog.godebug = none := by kernel_rfl

theorem walk (h : ∀ m, OkC Try.prog (mG m) 4 [] [] (.bool true)) (w : World) (m : Int) (hm : w.cell? ⟨0, 0, none⟩ = some (.int .i64 m)) :
    Calls Try.prog 4 #[] w fun e w' => e = .returned (.bool true) ∧ Below w.heap.size w w' := by
  have hlt : 0 < w.heap.size := by
    refine Nat.pos_of_ne_zero fun h0 => ?_
    have : w.heap[0]? = none := Array.getElem?_eq_none (by omega)
    simp only [World.cell?, this] at hm
    cases hm
  have hg : GlobOk Try.prog (mG m) w (fun a k => a = 0 ∧ k = 0) := by
    refine ⟨fun i cs hi => ?_, fun _ _ h => (by cases h)⟩
    simp only [mG] at hi
    split at hi
    · cases hi
      refine .ref (fun _ => .int .i64 m) rfl (fun j hj => ?_) fun j q hq => ?_
      · have : j = 0 := by simpa using hj
        subst this
        exact ⟨hm, ⟨rfl, rfl⟩, rfl⟩
      · cases j with
        | zero => cases hq; exact .int _ _
        | succ j => simp at hq
    · cases hi
  have hc := (h m w (fun a k => a = 0 ∧ k = 0) #[] (fun a _ h => by have := h.1; omega) hg ⟨rfl, fun j x q h => by simp at h⟩).2
  refine (callsIn_wide.1 hc).mono fun e w' he => ?_
  cases e with
  | returned v =>
    obtain ⟨I', hb, _, _, hr⟩ := he
    obtain ⟨ι₁, _, hrep⟩ := hr 0
    exact ⟨congrArg Ending.returned (inv_bool hrep), hb⟩
  | panicked c => exact he.elim
  | outgrown => exact he.elim

set_option maxRecDepth 100000 in
theorem lifted (h : ∀ m, OkC Try.prog (mG m) 4 [] [] (.bool true)) (os : Os) (started : os.Started) (H : Type) (enc : TypeId × Value → H) :
    ReturnsInHanded {} Try.checked os 4 .any (Rows.compKnownSpec.pre6 enc Try.prog Try.f4 Rows.compKnownRow.domain false) (Rows.compKnownSpec.post enc Try.prog Try.f4 false true false false) := by
  refine returnsInHanded_of_change_shaped (C := Try.checked) own started (by kernel_rfl) Try.func4
    (ChangeSpec.witness6 (enc := enc) (C := Try.checked) false ⟨#[], #[], []⟩ 8 (by kernel_rfl) (by kernel_rfl) (by kernel_rfl) (by kernel_rfl)) ?_
  intro W base args ds gs before hval0 hW hcnd _ hsh _
  have hval : ∀ (j : Nat) t v, Try.f4.params[j]? = some t → args[j]? = some v → Value.okWide Try.prog W .any base t v := hval0
  have hW' := hW
  obtain ⟨p, q, hA0, hV, rfl, hfz, hnd⟩ := hW
  have hA : DataW.TrodAll enc Try.prog W 0 (fun _ => true) true Try.f4.params.toList args.toList ds p := hA0
  rw [Try.params4] at hA hval
  obtain ⟨rfl, rfl, rfl⟩ := trodAll_none hA
  obtain ⟨rfl, rfl⟩ := trodVars_none hV
  clear hA0 hval0
  simp only [List.append_nil] at hW'
  obtain ⟨m, hm⟩ := Try.laysM143.s1_3 W hsh
  refine (walk h W m hm).mono fun e W' ⟨he, hg⟩ => ?_
  subst he
  exact ⟨_, rfl, post_of_below (pa := []) (pv := []) hW' (fun _ _ _ => (trodAll_cons_mk (shut_bool Try.underlying4 _) trodAll_mk0)) (fun sp _ => rfl) (fun _ _ => rfl) rfl
    hg (ok_one (by kernel_rfl) rfl (okWide_bool_mk Try.underlying4 _))⟩

theorem over (h : ∀ m, OkC Try.prog (mG m) 4 [] [] (.bool true)) : Rows.compKnownRow.holds Try.pinned (OpenSpec.ofChange Rows.compKnownSpec) :=
  OpenClaim.holds_of_wide 4 Try.f4 rfl rfl rfl rfl rfl rfl rfl ⟨rfl, rfl, rfl, rfl, rfl⟩ rfl rfl rfl rfl rfl (by kernel_rfl) Try.func4 (by kernel_rfl)
    (of_decide_eq_true (by kernel_rfl)) (by unfold Func.isWrapper; first | (rw [if_pos (by decide +kernel)]; kernel_rfl) | (rw [if_neg (by decide +kernel)]; exact ⟨rfl, rfl⟩))
    (fun os started H enc _ => lifted h os started H enc)

theorem proved : Rows.CompKnownSaid := over Go.Ab.Ck.ok
end Go.Proofs.Ythpnccneaaeomaa.compKnown

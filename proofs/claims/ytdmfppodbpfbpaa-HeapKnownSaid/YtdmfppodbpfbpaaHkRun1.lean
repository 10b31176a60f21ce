/- The run of HeapKnown gives true, and is a contract. Under: nothing. -/
import Derived.Test.YtdmfppodbpfbpaaHkTab
import Derived.Test.YtdmfppodbpfbpaaChecked
import Derived.KernelRfl
namespace Go.Ab.Hk
open Go Go.Ab Go.Proofs
def noG : Nat → Option (List PV) := fun _ => none
def isT : Option (Own × PV) → Bool | some ([], .bool b) => b | _ => false
theorem mixed : Try.prog.follows .mixedOrders = true := by kernel_rfl
theorem allC : tabC.all (chkFn Try.prog) = true := by kernel_rfl
theorem allN : tabN.all (chkFn Try.prog) = true := by kernel_rfl
theorem allO : tabO.all (chkFn Try.prog) = true := by kernel_rfl
theorem allR : tabR.all (chkItr Try.prog) = true := by kernel_rfl
theorem extOk : InlOk Try.prog noG fun g => (ext g).map extH := by
  intro g h hg
  cases hg
theorem isT_spec {o : Option (Own × PV)} (h : isT o = true) : o = some ([], .bool true) := by
  unfold isT at h
  split at h
  · subst h; rfl
  · cases h
def kn0 : Nat → List PV → Option PV := fun _ _ => none
theorem knOk0 : ∀ g ps r, kn0 g ps = some r → OkC Try.prog noG g ps [] r := fun _ _ _ h => by cases h
theorem run30 : isT ((envE noG kn0 ext tabN.fn tabR.fn tabC.fn tabO.fn 10000 20).call 30 []) = true := by kernel_rfl
theorem ok30 : OkC Try.prog noG 30 [] [] (.bool true) := ok_of_run mixed knOk0 extOk (TF.fn_all allN) (TF.fn_all allR) (TF.fn_all allC) (TF.fn_all allO) (isT_spec run30)
def kn1 : Nat → List PV → Option PV := fun g ps => match Nat.beq g 30, ps with | true, [] => some (.bool true) | _, _ => kn0 g ps
theorem knOk1 : ∀ g ps r, kn1 g ps = some r → OkC Try.prog noG g ps [] r := by
  intro g ps r h
  unfold kn1 at h
  split at h
  · rename_i hb
    have := Nat.eq_of_beq_eq_true hb
    subst this
    cases h
    exact ok30
  · exact knOk0 _ _ r h
end Go.Ab.Hk

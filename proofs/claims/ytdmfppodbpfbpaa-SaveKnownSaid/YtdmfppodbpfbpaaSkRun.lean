/- SaveKnown's run gives true, and is a contract. Under: nothing. -/
import Derived.Test.YtdmfppodbpfbpaaSkTab
import Derived.Test.YtdmfppodbpfbpaaChecked
import Derived.KernelRfl
namespace Go.Ab.Sk
open Go Go.Ab Go.Proofs
def noG : Nat → Option (List PV) := fun _ => none
def isT : Option PV → Bool | some (.bool b) => b | _ => false
theorem mixed : Try.prog.follows .mixedOrders = true := by kernel_rfl
theorem allC : tabC.all (chkFn Try.prog) = true := by kernel_rfl
theorem allN : tabN.all (chkFn Try.prog) = true := by kernel_rfl
theorem allR : tabR.all (chkItr Try.prog) = true := by kernel_rfl
theorem k15 : chkFn Try.prog 15 (cloneC 7 64 [.pv (.int .i64 (0)), .pv (.bool false), .pv (.int .i64 (0)), .pv (.str []), .pv (.int .i64 (0)), .pv (.int .i64 (0)), .pv (.int .i64 (0))]) = true := by kernel_rfl
theorem extOk : InlOk Try.prog noG fun g => (ext g).map extH := by
  intro g h hg
  cases hb : Nat.beq g 15 with
  | true =>
    have := Nat.eq_of_beq_eq_true hb
    subst this
    cases hg
    exact clone_ok mixed k15
  | false =>
    have : ext g = none := by unfold ext; rw [hb]
    simp only [this] at hg
    cases hg
theorem run : isT ((envE noG ext tabN.fn tabR.fn tabC.fn 10000 14).call 4 []) = true := by kernel_rfl
theorem isT_spec {o : Option PV} (h : isT o = true) : o = some (.bool true) := by
  unfold isT at h
  split at h
  · subst h; rfl
  · cases h
theorem ok : OkC Try.prog noG 4 [] [] (.bool true) := ok_of_run mixed extOk (TF.fn_all allN) (TF.fn_all allR) (TF.fn_all allC) (isT_spec run)
end Go.Ab.Sk

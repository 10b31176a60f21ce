/- The tables are the program's; Install of the first heap. Under: nothing. -/
import Derived.Test.YtnecjlmfpnbooaaGreatDoorFnKn
import Derived.Test.YtnecjlmfpnbooaaGreatDoorChecked
import Derived.KernelRfl
namespace Go.Ab.Fn
open Go Go.Ab Go.Proofs
theorem mixed : Tryz.prog.follows .mixedOrders = true := by kernel_rfl
theorem allC : tabC.all (chkFn Tryz.prog) = true := by kernel_rfl
theorem allN : tabN.all (chkFn Tryz.prog) = true := by kernel_rfl
theorem allO : tabO.all (chkFn Tryz.prog) = true := by kernel_rfl
theorem allC10 : tabC10.all (chkFn Tryz.prog) = true := by kernel_rfl
theorem allN10 : tabN10.all (chkFn Tryz.prog) = true := by kernel_rfl
theorem allO10 : tabO10.all (chkFn Tryz.prog) = true := by kernel_rfl
theorem allR : tabR.all (chkItr Tryz.prog) = true := by kernel_rfl
theorem extOk : InlOk Tryz.prog noG fun g => (ext g).map extH := by
  intro g h hg
  cases hg
theorem primOk : ∀ g p, noG.prim g = some p → PrimOk1 Tryz.prog g p := fun _ _ h => by cases h
theorem run10 : isR [(0, 0)] r10 ((envE noG kn0 ext tabN10.fn tabR.fn tabC10.fn tabO10.fn 10000 20).call 20 [h0]) = true := by kernel_rfl
theorem ok10 : OkC Tryz.prog noG 20 [h0] [(0, 0)] r10 := ok_of_run mixed kn0_ok extOk (TF.fn_all allN10) (TF.fn_all allR) (TF.fn_all allC10) (TF.fn_all allO10) (isR_eq run10)
end Go.Ab.Fn

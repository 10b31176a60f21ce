/- The layer wakes. Under: nothing. -/
import Derived.Test.YtnecjlmfpnbooaaGreatDoorFnRun3
import Derived.KernelRfl
namespace Go.Ab.Fn
open Go Go.Ab Go.Proofs
theorem run4 : isR [] (.bool true) ((envE noG kn17 ext tabN.fn tabR.fn tabC.fn tabO.fn 10000 20).call 4 []) = true := by kernel_rfl
theorem ok4 : OkC Tryz.prog noG 4 [] [] (.bool true) := ok_of_run mixed kn17_ok extOk (TF.fn_all allN) (TF.fn_all allR) (TF.fn_all allC) (TF.fn_all allO) (isR_eq run4)
end Go.Ab.Fn

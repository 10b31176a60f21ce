/- The keys of errordict. Under: nothing. -/
import Derived.Test.YtnecjlmfpnbooaaGreatDoorFnRun1
import Derived.KernelRfl
namespace Go.Ab.Fn
open Go Go.Ab Go.Proofs
theorem run38 : isR [] (.bool true) ((envE noG kn0 ext tabN.fn tabR.fn tabC.fn tabO.fn 10000 20).call 26 [st, cell2]) = true := by kernel_rfl
theorem ok38 : OkC Tryz.prog noG 26 [st, cell2] [] (.bool true) := ok_of_run mixed kn0_ok extOk (TF.fn_all allN) (TF.fn_all allR) (TF.fn_all allC) (TF.fn_all allO) (isR_eq run38)
noncomputable def kn38 : Nat → List PV → Option (Own × PV) := knowR 26 [cell2, st] [] (.bool true) kn0
theorem kn38_ok : ∀ g ps own r, kn38 g ps = some (own, r) → OkC Tryz.prog noG g ps own r := knowR_ok ok38 kn0_ok
end Go.Ab.Fn

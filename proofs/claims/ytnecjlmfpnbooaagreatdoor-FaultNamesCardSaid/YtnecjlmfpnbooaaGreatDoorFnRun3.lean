/- The heap is valid. Under: nothing. -/
import Derived.Test.YtnecjlmfpnbooaaGreatDoorFnRun2
import Derived.KernelRfl
namespace Go.Ab.Fn
open Go Go.Ab Go.Proofs
theorem run17 : isR [] (.int .i64 0) ((envE noG kn38 ext tabN.fn tabR.fn tabC.fn tabO.fn 10000 20).call 13 [hh]) = true := by kernel_rfl
theorem ok17 : OkC Tryz.prog noG 13 [hh] [] (.int .i64 0) := ok_of_run mixed kn38_ok extOk (TF.fn_all allN) (TF.fn_all allR) (TF.fn_all allC) (TF.fn_all allO) (isR_eq run17)
noncomputable def kn17 : Nat → List PV → Option (Own × PV) := know 13 [hh] [] (.int .i64 0) (know 20 [h0] [(0, 0)] r10 kn0)
theorem kn17_ok : ∀ g ps own r, kn17 g ps = some (own, r) → OkC Tryz.prog noG g ps own r := know_ok ok17 (know_ok ok10 kn0_ok)
end Go.Ab.Fn

/- Install of a first heap that is too small. Under: nothing. -/
import Derived.Test.YthpnccneaaeomaaGreatDoorFkRun1
import Derived.KernelRfl
namespace Go.Ab.Fk
open Go Go.Ab Go.Proofs
theorem run10b : isR [] r10b ((envE noG kn0 ext tabN10.fn tabR.fn tabC.fn tabO.fn 10000 20).call 10 [small]) = true := by kernel_rfl
theorem ok10b : OkC Tryz.prog noG 10 [small] [] r10b := ok_of_run mixed kn0_ok extOk (TF.fn_all allN10) (TF.fn_all allR) (TF.fn_all allC) (TF.fn_all allO) (isR_eq run10b)
noncomputable def kn2 : Nat → List PV → Option (Own × PV) := know 10 [h0] [(0, 0)] r10 (know 10 [small] [] r10b kn0)
theorem kn2_ok : ∀ g ps own r, kn2 g ps = some (own, r) → OkC Tryz.prog noG g ps own r := know_ok ok10 (know_ok ok10b kn0_ok)
end Go.Ab.Fk

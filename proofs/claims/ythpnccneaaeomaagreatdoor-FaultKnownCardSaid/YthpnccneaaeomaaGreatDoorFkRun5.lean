/- The layer wakes. Under: nothing. -/
import Derived.Test.YthpnccneaaeomaaGreatDoorFkRun4
import Derived.KernelRfl
namespace Go.Ab.Fk
open Go Go.Ab Go.Proofs
theorem run4 : isR [] (.bool true) ((envE noG kn17 ext tabN.fn tabR.fn tabC.fn tabO.fn 10000 20).call 4 []) = true := by kernel_rfl
theorem ok4 : OkC Tryz.prog noG 4 [] [] (.bool true) := ok_of_run mixed kn17_ok extOk (TF.fn_all allN) (TF.fn_all allR) (TF.fn_all allC) (TF.fn_all allO) (isR_eq run4)
noncomputable def kn3 : Nat → List PV → Option (Own × PV) := know 4 [] [] (.bool true) kn2
theorem kn3_ok : ∀ g ps own r, kn3 g ps = some (own, r) → OkC Tryz.prog noG g ps own r := know_ok ok4 kn2_ok
end Go.Ab.Fk

/- The run of FaultKnown gives true, and is a contract. Under: nothing. -/
import Derived.Test.YthpnccneaaeomaaGreatDoorFkRun5
import Derived.KernelRfl
namespace Go.Ab.Fk
open Go Go.Ab Go.Proofs
theorem run : isR [] (.bool true) ((envE noG kn3 ext tabN.fn tabR.fn tabC.fn tabO.fn 10000 20).call 3 []) = true := by kernel_rfl
theorem ok : OkC Tryz.prog noG 3 [] [] (.bool true) := ok_of_run mixed kn3_ok extOk (TF.fn_all allN) (TF.fn_all allR) (TF.fn_all allC) (TF.fn_all allO) (isR_eq run)
theorem primOk : ∀ g p, noG.prim g = some p → PrimOk1 Tryz.prog g p := fun _ _ h => by cases h
end Go.Ab.Fk

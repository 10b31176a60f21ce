/- The run of CompKnown gives true, and is a contract. Under: nothing. -/
import Derived.Test.YthpnccneaaeomaaCkRun1
import Derived.KernelRfl
namespace Go.Ab.Ck
open Go Go.Ab Go.Proofs
theorem run (m : Int) : isT ((envE (mG m) kn1 ext tabN.fn tabR.fn tabC.fn tabO.fn 10000 20).call 4 []) = true := by kernel_rfl
theorem ok (m : Int) : OkC Try.prog (mG m) 4 [] [] (.bool true) := ok_of_run mixed (knOk1 m) (extOk m) (TF.fn_all allN) (TF.fn_all allR) (TF.fn_all allC) (TF.fn_all allO) (isT_spec (run m))
end Go.Ab.Ck

/- The run of DictKnown gives true, and is a contract. Under: nothing. -/
import Derived.Test.YthpnccneaaeomaaDkRun1
import Derived.KernelRfl
namespace Go.Ab.Dk
open Go Go.Ab Go.Proofs
theorem run : isT ((envE noG kn1 ext tabN.fn tabR.fn tabC.fn tabO.fn 10000 20).call 3 []) = true := by kernel_rfl
theorem ok : OkC Try.prog noG 3 [] [] (.bool true) := ok_of_run mixed knOk1 extOk (TF.fn_all allN) (TF.fn_all allR) (TF.fn_all allC) (TF.fn_all allO) (isT_spec run)
end Go.Ab.Dk

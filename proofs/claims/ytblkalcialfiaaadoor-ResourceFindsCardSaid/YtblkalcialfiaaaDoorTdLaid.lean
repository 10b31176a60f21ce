/- The program has the codes of the tables. Under: nothing. -/
import Derived.Test.YtblkalcialfiaaaDoorTdTb
import Derived.Test.YtblkalcialfiaaaDoorChecked
import Derived.KernelRfl
namespace Go.Ab.Td
open Go Go.Ab Go.Proofs
theorem laid : Laid Tryd.prog := ⟨by kernel_rfl, by kernel_rfl, by kernel_rfl, by kernel_rfl, by kernel_rfl⟩
end Go.Ab.Td

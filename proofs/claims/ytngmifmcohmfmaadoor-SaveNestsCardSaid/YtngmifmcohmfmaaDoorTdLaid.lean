/- The program has the codes of the tables. Under: nothing. -/
import Derived.Test.YtngmifmcohmfmaaDoorTdTb
import Derived.Test.YtngmifmcohmfmaaDoorChecked
import Derived.KernelRfl
namespace Go.Ab.Td
open Go Go.Ab Go.Proofs
theorem laid : Laid Tryd.prog := ⟨by kernel_rfl, by kernel_rfl, by kernel_rfl, by kernel_rfl, by kernel_rfl⟩
end Go.Ab.Td

/- HeapReads: the law. Under: nothing. -/
import Derived.Test.YtblkalcialfiaaaDoorTdFw
import Derived.Test.YtblkalcialfiaaaDoorTdHa
namespace Go.Ab.Td
open Go Go.Ab
variable {P : Program}
set_option linter.unusedSimpArgs false
attribute [local irreducible] compat
theorem tt_eqT {p : Prop} (h : p) : tt p = true := tt_true.mpr h
theorem tt_eqF {p : Prop} (h : ¬ p) : tt p = false := tt_false.mpr h
end Go.Ab.Td

/- Reading: Items, Len, Interval. Under: nothing. -/
import Derived.Test.YtblkalcialfiaaaDoorTdRK
import Derived.Test.YtblkalcialfiaaaDoorTdEr
namespace Go.Ab.Td
open Go Go.Ab
variable {P : Program}
set_option linter.unusedSimpArgs false
attribute [local irreducible] compat
end Go.Ab.Td

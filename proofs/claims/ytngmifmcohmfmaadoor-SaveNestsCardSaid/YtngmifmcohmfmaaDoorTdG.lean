/- Objects and heaps: keys. Under: nothing. -/
import Derived.Test.YtngmifmcohmfmaaDoorTdF
namespace Go.Ab.Td
open Go Go.Ab
variable {P : Program}
set_option linter.unusedSimpArgs false
attribute [local irreducible] compat

end Go.Ab.Td

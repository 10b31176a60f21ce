/- Heaps: objects that fit. Under: nothing. -/
import Derived.Test.YtngmifmcohmfmaaDoorTdC
namespace Go.Ab.Td
open Go Go.Ab
variable {P : Program}
set_option linter.unusedSimpArgs false
attribute [local irreducible] compat

end Go.Ab.Td

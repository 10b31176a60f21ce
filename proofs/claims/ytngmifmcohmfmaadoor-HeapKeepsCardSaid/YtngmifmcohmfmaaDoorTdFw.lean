/- The laws of heaps: few, either, objs. Under: nothing. -/
import Derived.Test.YtngmifmcohmfmaaDoorTdRL
import Derived.Test.YtngmifmcohmfmaaDoorTdFo
import Derived.Test.YtngmifmcohmfmaaDoorAbGl
import Derived.Test.YtngmifmcohmfmaaDoorAbG6
namespace Go.Ab.Td
open Go Go.Ab
variable {P : Program}
set_option linter.unusedSimpArgs false
attribute [local irreducible] compat
end Go.Ab.Td

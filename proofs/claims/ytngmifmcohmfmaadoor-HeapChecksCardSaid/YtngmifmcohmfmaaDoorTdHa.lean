/- HeapAlike: the law. Under: nothing. -/
import Derived.Test.YtngmifmcohmfmaaDoorTdFo
import Derived.Test.YtngmifmcohmfmaaDoorTdEr
import Derived.Test.YtngmifmcohmfmaaDoorTdAk
import Derived.Test.YtngmifmcohmfmaaDoorTdW11
import Derived.Test.YtngmifmcohmfmaaDoorAbGl
namespace Go.Ab.Td
open Go Go.Ab
variable {P : Program}
set_option linter.unusedSimpArgs false
attribute [local irreducible] compat
end Go.Ab.Td

/- Objects: the program. Under: nothing. -/
import Derived.Test.YtngmifmcohmfmaaDoorTdB
import Derived.Test.YtngmifmcohmfmaaDoorSp3
namespace Go.Ab.Td
open Go Go.Ab
variable {P : Program}
set_option linter.unusedSimpArgs false
attribute [local irreducible] compat
end Go.Ab.Td

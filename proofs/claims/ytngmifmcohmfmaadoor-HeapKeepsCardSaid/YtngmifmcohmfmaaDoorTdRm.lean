/- Removing. Under: nothing. -/
import Derived.Test.YtngmifmcohmfmaaDoorTdSm
import Derived.Test.YtngmifmcohmfmaaDoorAbPd
namespace Go.Ab.Td
open Go Go.Ab
variable {P : Program}
set_option linter.unusedSimpArgs false
attribute [local irreducible] compat deleteE
end Go.Ab.Td

/- The operand stack; resources. Under: nothing. -/
import Derived.Test.YtngmifmcohmfmaaDoorTdG
import Derived.Test.YtngmifmcohmfmaaDoorSp3
namespace Go.Ab.Td
open Go Go.Ab
variable {P : Program}
set_option linter.unusedSimpArgs false
attribute [local irreducible] compat

end Go.Ab.Td

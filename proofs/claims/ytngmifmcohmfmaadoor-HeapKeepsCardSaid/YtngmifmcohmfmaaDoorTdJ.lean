/- Resources: the request. Under: nothing. -/
import Derived.Test.YtngmifmcohmfmaaDoorTdI
namespace Go.Ab.Td
open Go Go.Ab
variable {P : Program}
set_option linter.unusedSimpArgs false
set_option linter.unusedVariables false
attribute [local irreducible] compat

end Go.Ab.Td

/- The operand stack; resources. Under: nothing. -/
import Derived.Test.YtblkalcialfiaaaDoorTdG
import Derived.Test.YtblkalcialfiaaaDoorSp3
namespace Go.Ab.Td
open Go Go.Ab
variable {P : Program}
set_option linter.unusedSimpArgs false
attribute [local irreducible] compat

end Go.Ab.Td

/- The laws of heaps: few, either, objs. Under: nothing. -/
import Derived.Test.YtblkalcialfiaaaDoorTdRL
import Derived.Test.YtblkalcialfiaaaDoorTdFo
import Derived.Test.YtblkalcialfiaaaDoorAbGl
import Derived.Test.YtblkalcialfiaaaDoorAbMm
namespace Go.Ab.Td
open Go Go.Ab
variable {P : Program}
set_option linter.unusedSimpArgs false
attribute [local irreducible] compat
end Go.Ab.Td

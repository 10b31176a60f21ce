/- A part of the proof: the texts TdN. Under: nothing. -/
import Derived.Test.YtomfaadmmchdcaaDoorG25
import Derived.Test.YtomfaadmmchdcaaDoorG08
import Derived.Test.YtomfaadmmchdcaaDoorG24
set_option linter.unusedVariables false
namespace Go.Ab.Td
set_option maxRecDepth 100000
open Go Go.Ab
variable {P:Program}
set_option linter.unusedSimpArgs false
set_option linter.unusedVariables false
attribute [local irreducible] g8
end Go.Ab.Td

/- A part of the proof: the texts TdZg. Under: nothing. -/
import Derived.Test.YtomfaadmmchdcaaGreatDoorG29
import Derived.Test.YtomfaadmmchdcaaGreatDoorG24
set_option linter.unusedVariables false
namespace Go.Ab.Td
set_option maxRecDepth 100000
open Go Go.Ab
variable {P:Program}
set_option linter.unusedSimpArgs false
attribute [local irreducible] e9
end Go.Ab.Td

/- State: the state of a draft. Under: nothing. -/
import Derived.Test.YtngmifmcohmfmaaDoorTdHeap
namespace Go.Ab.Td
open Go Go.Ab

section
variable (cells ops dicts H : List (List PV))
end

attribute [local irreducible] compat

end Go.Ab.Td

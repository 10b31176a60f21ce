/- Joined texts: TdRA, TdRB, TdRC, TdRD. Under: nothing. -/
import Derived.Test.YtngmifmcohmfmaaDoorTdG
import Derived.Test.YtngmifmcohmfmaaDoorSp3
import Derived.Test.YtngmifmcohmfmaaDoorTdH
/- The reference: objects, heaps. Under: nothing. -/
namespace Go.Ab.Td
open Go Go.Ab
variable {P : Program}
set_option linter.unusedSimpArgs false
attribute [local irreducible] compat

end Go.Ab.Td

/- The reference: heaps changed. Under: nothing. -/
namespace Go.Ab.Td
open Go Go.Ab
variable {P : Program}
set_option linter.unusedSimpArgs false
attribute [local irreducible] compat

end Go.Ab.Td

/- The reference: a key stored; lists of names. Under: nothing. -/
namespace Go.Ab.Td
open Go Go.Ab
variable {P : Program}
set_option linter.unusedSimpArgs false
attribute [local irreducible] compat
end Go.Ab.Td

/- The reference: keys, resources. Under: nothing. -/
namespace Go.Ab.Td
open Go Go.Ab
variable {P : Program}
set_option linter.unusedSimpArgs false
attribute [local irreducible] compat
end Go.Ab.Td

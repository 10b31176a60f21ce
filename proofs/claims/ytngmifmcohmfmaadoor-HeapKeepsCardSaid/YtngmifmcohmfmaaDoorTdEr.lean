/- Joined texts: TdEq, TdEr. Under: nothing. -/
import Derived.Test.YtngmifmcohmfmaaDoorTdRK
/- Equality: the program. Under: nothing. -/
namespace Go.Ab.Td
open Go Go.Ab
variable {P : Program}
set_option linter.unusedSimpArgs false
attribute [local irreducible] compat
end Go.Ab.Td

/- Equality: the program, alike the reference. Under: nothing. -/
namespace Go.Ab.Td
open Go Go.Ab
variable {P : Program}
set_option linter.unusedSimpArgs false
attribute [local irreducible] compat
end Go.Ab.Td

/- Joined texts: TdAl, TdAk. Under: nothing. -/
import Derived.Test.YtngmifmcohmfmaaDoorTdRK
/- Equality is an equivalence. Under: nothing. -/
namespace Go.Ab.Td
open Go Go.Ab
end Go.Ab.Td

/- Equality agrees with equality of keys. Under: nothing. -/
namespace Go.Ab.Td
open Go Go.Ab
end Go.Ab.Td

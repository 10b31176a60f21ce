/- A function that is said outright, with symbols. Under: nothing. -/
import Derived.Test.YtngmifmcohmfmaaDoorAbG6
namespace Go.Ab
end Go.Ab
namespace Go.Ab
end Go.Ab

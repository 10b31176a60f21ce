/- Same cells, same heaps. Under: nothing. -/
import Derived.Test.YtngmifmcohmfmaaDoorTdLr
namespace Go.Ab.Td
open Go Go.Ab
variable {P : Program}
set_option linter.unusedSimpArgs false
attribute [local irreducible] compat
theorem Cl.ext' (a b : Cl) : (a = b) = (a.kind = b.kind ∧ a.bytes = b.bytes ∧ a.items = b.items ∧ a.keys = b.keys ∧ a.vals = b.vals ∧ a.max = b.max ∧ a.at' = b.at') := by
  cases a; cases b; simp
end Go.Ab.Td

/- Joined texts: TdRA, TdRB, TdRC, TdRD. Under: nothing. -/
import Derived.Test.YtngmifmcohmfmaaDoorTdG
import Derived.Test.YtngmifmcohmfmaaDoorSp3
import Derived.Test.YtngmifmcohmfmaaDoorTdH
/- The reference: objects, heaps. Under: nothing. -/
namespace Go.Ab.Td
open Go Go.Ab
variable {P : Program}
set_option linter.unusedSimpArgs false
attribute [local irreducible] compat

end Go.Ab.Td

/- The reference: heaps changed. Under: nothing. -/
namespace Go.Ab.Td
open Go Go.Ab
variable {P : Program}
set_option linter.unusedSimpArgs false
attribute [local irreducible] compat

end Go.Ab.Td

/- The reference: a key stored; lists of names. Under: nothing. -/
namespace Go.Ab.Td
open Go Go.Ab
variable {P : Program}
set_option linter.unusedSimpArgs false
attribute [local irreducible] compat
theorem pub_all {α : Type} {f : α → List PV} {l : List α} {n : Nat} (h : l.length = n) : List.take n (List.drop 0 (List.map f l)) = List.map f l := by
  subst h
  rw [List.drop_zero, List.take_of_length_le (by simp)]


end Go.Ab.Td

/- The reference: keys, resources. Under: nothing. -/
namespace Go.Ab.Td
open Go Go.Ab
variable {P : Program}
set_option linter.unusedSimpArgs false
attribute [local irreducible] compat
end Go.Ab.Td

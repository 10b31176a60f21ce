/- Joined texts: TdKj, TdKk, TdKl, TdKm. Under: nothing. -/
import Derived.Test.YtngmifmcohmfmaaDoorTdKi
import Derived.Test.YtngmifmcohmfmaaDoorTdRK
/- Valid heaps: the reference. Under: nothing. -/
namespace Go.Ab.Td
open Go Go.Ab
variable {P : Program}
set_option linter.unusedSimpArgs false
attribute [local irreducible] compat

end Go.Ab.Td

/- Valid heaps: the reference, keys. Under: nothing. -/
namespace Go.Ab.Td
open Go Go.Ab
variable {P : Program}
set_option linter.unusedSimpArgs false
attribute [local irreducible] compat
/-- Keys, as the reference sees them. -/
def keyR (l : List Ob) (i : Nat) (k : Ob) : Prop := k.kind ≠ 0 ∧ k.kind ≠ 6 ∧ k.key = k ∧ (i : Int) ≤ idxFrom k 0 l
def keysR (l : List Ob) : Prop := ∀ (i : Nat) (k : Ob), l[i]? = some k → keyR l i k


end Go.Ab.Td

/- Valid heaps: the reference, cells. Under: nothing. -/
namespace Go.Ab.Td
open Go Go.Ab
variable {P : Program}
set_option linter.unusedSimpArgs false
attribute [local irreducible] compat
/-- A cell that is valid in a heap, as the reference sees it. -/
def cellR (h : List Cl) (c : Cl) : Prop :=
  (c.kind = 1 ∧ (c.bytes.length ≤ 1000 ∧ c.items.length = 0 ∧ c.keys.length = 0 ∧ c.vals.length = 0 ∧ c.max = 0 ∧ c.at' = 0)) ∨
  (c.kind = 2 ∧ (c.bytes = [] ∧ c.items.length ≤ 1000 ∧ (∀ o ∈ c.items, fits h o) ∧ c.keys.length = 0 ∧ c.vals.length = 0 ∧ c.max = 0 ∧ c.at' = 0)) ∨
  (c.kind = 3 ∧ (c.bytes = [] ∧ c.items.length = 0 ∧ c.at' = 0 ∧ 0 ≤ c.max ∧ c.max ≤ 200 ∧ c.keys.length = c.vals.length ∧ (c.keys.length : Int) ≤ c.max ∧ (∀ o ∈ c.keys, fits h o) ∧ (∀ o ∈ c.vals, fits h o) ∧ keysR c.keys)) ∨
  (c.kind = 4 ∧ (c.bytes.length ≤ 4000 ∧ c.items.length = 0 ∧ c.keys.length = 0 ∧ c.vals.length = 0 ∧ 0 ≤ c.at' ∧ c.at' ≤ c.bytes.length ∧ (c.max = 0 ∨ c.max = 1)))


end Go.Ab.Td

/- Valid heaps: the reference, dictionaries. Under: nothing. -/
namespace Go.Ab.Td
open Go Go.Ab
variable {P : Program}
set_option linter.unusedSimpArgs false
attribute [local irreducible] compat

end Go.Ab.Td

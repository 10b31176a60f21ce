/- Joined texts: TdRE, TdRF, TdRG, TdRH, TdRI, TdRK. Under: nothing. -/
import Derived.Test.YtngmifmcohmfmaaDoorTdRD
/- The reference: operands replaced, resources. Under: nothing. -/
namespace Go.Ab.Td
open Go Go.Ab
variable {P : Program}
set_option linter.unusedSimpArgs false
attribute [local irreducible] compat

end Go.Ab.Td

/- The reference: resources found. Under: nothing. -/
namespace Go.Ab.Td
open Go Go.Ab
variable {P : Program}
set_option linter.unusedSimpArgs false
attribute [local irreducible] compat
end Go.Ab.Td

/- The reference: keys. Under: nothing. -/
namespace Go.Ab.Td
open Go Go.Ab
variable {P : Program}
set_option linter.unusedSimpArgs false
attribute [local irreducible] compat
end Go.Ab.Td

/- The reference: keys in a heap. Under: nothing. -/
namespace Go.Ab.Td
open Go Go.Ab
variable {P : Program}
set_option linter.unusedSimpArgs false
attribute [local irreducible] compat

end Go.Ab.Td

/- The reference: what fits, octets. Under: nothing. -/
namespace Go.Ab.Td
open Go Go.Ab
variable {P : Program}
set_option linter.unusedSimpArgs false
attribute [local irreducible] compat

noncomputable def oct (h : List Cl) (o : Ob) : Option (List UInt8) := if o.kind = 5 then some o.name else if o.kind = 6 then some (sub h o) else none


end Go.Ab.Td

/- Equality: the reference. Under: nothing. -/
namespace Go.Ab.Td
open Go Go.Ab
variable {P : Program}
set_option linter.unusedSimpArgs false
attribute [local irreducible] compat
open Classical in
noncomputable def eqv (h : List Cl) (a b : Ob) : Prop := if ¬ fits h a ∨ ¬ fits h b then False else if a.isNum ∧ b.isNum then a.val = b.val else if (oct h a).isSome = true ∧ (oct h b).isSome = true then (oct h a).getD [] = (oct h b).getD [] else ({ a with exec := false } : Ob) = { b with exec := false }


end Go.Ab.Td

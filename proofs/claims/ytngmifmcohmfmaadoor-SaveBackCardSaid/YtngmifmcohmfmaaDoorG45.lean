/- A part of the proof: the texts TdRu. Under: nothing. -/
import Derived.Test.YtngmifmcohmfmaaDoorG44
set_option linter.unusedVariables false
namespace Go.Ab.Td
set_option maxRecDepth 100000
set_option maxRecDepth 100000
open Go Go.Ab
variable {P:Program}
set_option linter.unusedSimpArgs false
attribute [local irreducible] e9
theorem a9k {h:List Cl} (hs:small h):big h:=⟨by have:=hs.1;omega,fun c hc=>by obtain ⟨h1,h2,h3,h4⟩:=hs.2 c hc;exact ⟨by omega,by omega,by omega⟩⟩
end Go.Ab.Td

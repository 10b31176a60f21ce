/- A part of the proof: the texts TdN. Under: nothing. -/
import Derived.Test.YtngmifmcohmfmaaDoorG40
import Derived.Test.YtngmifmcohmfmaaDoorG42
import Derived.Test.YtngmifmcohmfmaaDoorG30
set_option linter.unusedVariables false
namespace Go.Ab.Td
set_option maxRecDepth 100000
set_option maxRecDepth 100000
open Go Go.Ab
variable {P:Program}
set_option linter.unusedSimpArgs false
set_option linter.unusedVariables false
attribute [local irreducible] j6
theorem b8L {c:Int} (h0:0≤c):∃ cs,(a1y.map fun c=>[PV.str c])[(c.tmod 5).toNat]?=some [PV.str cs]∧cs ∈ a1y:=by
 have h1:=Int.tmod_nonneg 5 h0
 have h2:=Int.tmod_lt_of_pos c (show (0:Int)<5 by decide)
 have:c.tmod 5=0∨c.tmod 5=1∨c.tmod 5=2∨c.tmod 5=3∨c.tmod 5=4:=by omega
 rcases this with h | h | h | h | h <;>rw [h] <;>exact ⟨_,rfl,by simp [a1y]⟩
end Go.Ab.Td

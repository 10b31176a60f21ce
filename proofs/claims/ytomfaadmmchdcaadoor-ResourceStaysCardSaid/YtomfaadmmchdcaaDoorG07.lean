/- A part of the proof: the texts TdBase. Under: nothing. -/
import Derived.Test.YtomfaadmmchdcaaDoorG06
import Derived.Test.YtomfaadmmchdcaaDoorG05
import Derived.KernelRfl
set_option linter.unusedVariables false
namespace Go.Ab.Td
set_option maxRecDepth 100000
set_option maxRecDepth 100000
open Go Go.Ab
def b0q:List PV:=[.str [97],.str [98],.str [97,100,100],.str [120],.str [102,111,111],.str [],.str [112,111,112],.str [70,111,110,116]]
def G:Gl:=⟨fun i=>match i with | 0=>some b0q | _=>none,fun _=>none⟩
def noX:Nat→Option a2f:=fun _=>none
def noT:Nat→Option u0:=fun _=>none
theorem j3 {P:Program} (C:Laid P) {g:Nat} {c:u0} {ps:List PV} {r:PV} (hk:f0 P g c=true) (hl:ps.length=c.nparams) (h:fnV G (l8 P G) noX noT noT 0 c ps r):l8 P G g ps [] r:=
 b4e C.mixed hk (fun _ _ h=>by cases h) (fun _ _ h=>by cases h) (fun _ _ h=>by cases h) hl h
end Go.Ab.Td

/- A part of the proof: the texts TdFi, AbIx, AbSl, TdZe, TdZg. Under: nothing. -/
import Derived.Test.YtomfaadmmchdcaaGreatDoorG19
import Derived.Test.YtomfaadmmchdcaaGreatDoorG22
import Derived.Test.YtomfaadmmchdcaaGreatDoorG31
import Derived.Test.YtomfaadmmchdcaaGreatDoorG05
import Derived.Test.YtomfaadmmchdcaaGreatDoorG27
set_option linter.unusedVariables false
namespace Go.Ab.Td
set_option maxRecDepth 100000
open Go Go.Ab
variable {P:Program}
set_option linter.unusedSimpArgs false
attribute [local irreducible] e9
def st3 (s:B8) (k o:Ob) (c:List UInt8):B8:={s with ops:=[k,o,nmO c]}
def a8f:List (List UInt8):=[[100,101,102,105,110,101,114,101,115,111,117,114,99,101],[102,105,110,100,114,101,115,111,117,114,99,101],[117,110,100,101,102,105,110,101,114,101,115,111,117,114,99,101],[114,101,115,111,117,114,99,101,115,116,97,116,117,115]]
noncomputable def rfO (h:List Cl) (c:List UInt8) (k:Ob):Ob:=if b5h h (nmO c)=0 then c5E h (c2y h (nmO c)) k else V8
noncomputable def rfE (h:List Cl) (c:List UInt8) (k:Ob):Int:=if b5h h (nmO c)=0 then c5D h (c2y h (nmO c)) k else b5h h (nmO c)
end Go.Ab.Td
namespace Go.Ab
set_option linter.unusedSimpArgs false
section
variable {σ:b7} {nm:Nat} {ev:RA→AV}
end
end Go.Ab
namespace Go.Ab
section
variable {σ:b7} {nm es:Nat} {ev:RA→AV}
end
end Go.Ab
namespace Go.Ab
section
variable {σ:b7} {nm es:Nat} {ev:RA→AV}
end
end Go.Ab
namespace Go.Ab.Td
set_option maxRecDepth 100000
open Go Go.Ab
variable {P:Program}
set_option linter.unusedSimpArgs false
attribute [local irreducible] e9
end Go.Ab.Td
namespace Go.Ab.Td
set_option maxRecDepth 100000
open Go Go.Ab
variable {P:Program}
set_option linter.unusedSimpArgs false
attribute [local irreducible] e9
end Go.Ab.Td

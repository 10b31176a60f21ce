/- The tables of the functions. Under: nothing. -/
import Derived.Test.YtdmfppodbpfbpaaHkCodes0
namespace Go.Ab.Hk
open Go.Ab
def tabC : TF := (.node (.node (.node (.node (.node (.node (.leaf 64 c64) (.leaf 32 c32)) (.leaf 80 c80)) (.node (.node (.leaf 72 c72) (.node (.leaf 40 c40) (.leaf 104 c104))) (.leaf 120 c120))) (.node (.node (.node (.leaf 68 c68) (.node (.leaf 36 c36) (.leaf 100 c100))) (.leaf 116 c116)) (.node (.node (.leaf 76 c76) (.leaf 108 c108)) (.node .nil (.node (.leaf 60 c60) (.leaf 124 c124)))))) (.node (.node (.node (.node (.leaf 66 c66) (.node (.leaf 34 c34) (.leaf 98 c98))) (.leaf 50 c50)) (.node (.node (.leaf 74 c74) (.node (.leaf 42 c42) (.leaf 106 c106))) .nil)) (.node (.node (.node (.node (.leaf 6 c6) (.leaf 70 c70)) (.node (.leaf 38 c38) (.leaf 102 c102))) (.leaf 118 c118)) (.node (.leaf 78 c78) (.node (.leaf 30 c30) (.leaf 62 c62)))))) (.node (.node (.node (.node (.node (.leaf 65 c65) (.node (.leaf 33 c33) (.leaf 97 c97))) (.leaf 81 c81)) (.node (.node (.leaf 73 c73) (.node (.leaf 41 c41) (.leaf 105 c105))) (.leaf 121 c121))) (.node (.node (.node (.leaf 69 c69) (.node (.leaf 37 c37) (.leaf 101 c101))) (.leaf 117 c117)) (.node (.node (.node (.leaf 13 c13) (.leaf 77 c77)) (.leaf 109 c109)) (.node .nil (.node (.leaf 61 c61) (.leaf 125 c125)))))) (.node (.node (.node (.node (.leaf 67 c67) (.node (.leaf 35 c35) (.leaf 99 c99))) .nil) (.node (.node (.leaf 75 c75) (.leaf 107 c107)) .nil)) (.node (.node (.node (.leaf 71 c71) (.node (.leaf 39 c39) (.leaf 103 c103))) (.leaf 119 c119)) (.node (.leaf 79 c79) (.leaf 63 c63))))))
def tabO : TF := (.leaf 31 c31)
def tabN : TF := (.leaf 98 c98)
def tabR : TF := (.leaf 116 c116)
def ext (_ : Nat) : Option RunI := none
end Go.Ab.Hk

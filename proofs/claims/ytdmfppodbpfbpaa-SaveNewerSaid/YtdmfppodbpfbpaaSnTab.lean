/- The tables of the functions. Under: nothing. -/
import Derived.Test.YtdmfppodbpfbpaaSnCodes0
namespace Go.Ab.Sn
open Go.Ab
def tabC : TF := (.node (.node (.node (.node (.node .nil (.node (.node (.leaf 16 c16) (.leaf 80 c80)) (.node (.leaf 48 c48) (.leaf 112 c112)))) (.node (.node (.leaf 8 c8) (.leaf 104 c104)) (.leaf 88 c88))) (.node (.node (.node (.leaf 68 c68) (.leaf 100 c100)) (.leaf 84 c84)) (.node (.node (.leaf 12 c12) (.leaf 44 c44)) (.leaf 92 c92)))) (.node (.node (.node (.node (.leaf 66 c66) (.leaf 34 c34)) (.node (.leaf 82 c82) (.leaf 50 c50))) (.node (.node (.leaf 10 c10) (.leaf 42 c42)) (.node (.leaf 90 c90) (.leaf 122 c122)))) (.node (.node (.node (.leaf 70 c70) (.leaf 102 c102)) (.node (.leaf 86 c86) (.leaf 118 c118))) (.node (.node (.leaf 14 c14) (.node (.leaf 46 c46) (.leaf 110 c110))) .nil)))) (.node (.node (.node (.node .nil (.node (.leaf 81 c81) (.leaf 49 c49))) (.node (.node (.leaf 9 c9) (.leaf 41 c41)) (.leaf 89 c89))) (.node (.node (.node (.leaf 69 c69) (.leaf 101 c101)) (.node (.leaf 85 c85) (.leaf 117 c117))) (.node (.leaf 45 c45) (.leaf 93 c93)))) (.node (.node (.node (.node (.node (.leaf 3 c3) (.leaf 67 c67)) .nil) (.leaf 83 c83)) (.node (.node (.leaf 11 c11) (.leaf 43 c43)) (.node (.leaf 91 c91) (.leaf 123 c123)))) (.node (.node (.node (.node (.leaf 7 c7) (.leaf 71 c71)) (.leaf 103 c103)) (.leaf 87 c87)) (.node (.node (.leaf 15 c15) (.node (.leaf 47 c47) (.leaf 111 c111))) .nil)))))
def tabN : TF := (.node (.leaf 88 c88) (.node (.leaf 49 c49) (.leaf 91 c91)))
def tabR : TF := (.leaf 122 c122)
def ext (g : Nat) : Option RunI := match Nat.beq g 15 with | true => some (cloneE 7 64) | false => none
end Go.Ab.Sn

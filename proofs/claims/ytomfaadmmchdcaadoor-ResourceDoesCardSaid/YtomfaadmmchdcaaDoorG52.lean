/- A part of the proof: the texts TdAr3, TdLaid. Under: nothing. -/
import Derived.Test.YtomfaadmmchdcaaDoorG41
import Derived.Test.YtomfaadmmchdcaaDoorG06
import Derived.Test.YtomfaadmmchdcaaDoorChecked
import Derived.KernelRfl
set_option linter.unusedVariables false
namespace Go.Ab.Td
set_option maxRecDepth 100000
set_option maxRecDepth 100000
open Go Go.Ab Go.ChangeShapes
theorem c5n {p:PV} (h:a9I (false,[.sl a8r]) p):∃ l:List Wd,p= .sl 5 (l.map Wd.row):=by
 obtain ⟨qs,e,hl,h⟩:=h
 simp only [a8H] at e
 subst e
 have k:=h 0 _ _ rfl rfl
 cases k with
 | sl w g=>
   obtain ⟨l,rfl,_⟩:=b8u (Q:=fun _=>True) (fun qs h=>by obtain ⟨w,e⟩:=c4F h;exact ⟨w,e,trivial⟩) _ w g
   exact ⟨l,rfl⟩
end Go.Ab.Td
namespace Go.Ab.Td
set_option maxRecDepth 100000
set_option maxRecDepth 100000
open Go Go.Ab Go.Proofs
theorem laid:Laid Tryd.prog:=⟨by kernel_rfl,by kernel_rfl,by kernel_rfl,by kernel_rfl,by kernel_rfl⟩
end Go.Ab.Td

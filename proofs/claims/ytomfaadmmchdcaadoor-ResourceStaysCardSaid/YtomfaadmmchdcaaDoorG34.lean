/- A part of the proof: the texts TdDp. Under: nothing. -/
import Derived.Test.YtomfaadmmchdcaaDoorG08
set_option linter.unusedVariables false
namespace Go.Ab.Td
set_option maxRecDepth 100000
set_option maxRecDepth 100000
open Go Go.Ab
variable {P:Program}
set_option linter.unusedSimpArgs false
attribute [local irreducible] g8
set_option maxHeartbeats 8000000 in
theorem b5h (C:Laid P) (s t:C3) (e:Int) (hr:l8 P G m9 [.ref [.func (.func g9) [aS s] []],.ref [pI 2],.ref (a9P s),.ref [.func (.func q8) [aS s] []]] [] (.p7 [aS t,pI e])):l8 P G p9 [aS s,.str [102,105,110,100,114,101,115,111,117,114,99,101]] [] (.p7 [aS t,pI e]):=by
 refine j3 C (P5 C) rfl ?_
 repeat' ((conv=>whnf);first | (with_reducible refine sC (by kernel_rfl) ?_) | ((first | (with_reducible first | refine sB ?_ | refine x4 ?_ | refine x5 ?_) | refine sP (by rfl) ?_);first | refine oT ?_ | refine oF ?_ | (refine Or.inr (Or.inr ⟨fun hsp=>?_,fun hsp=>?_⟩) <;>(try simp only [nm] at hsp) <;>try subst hsp)) | refine ⟨_,_,M7 C s _ _,?_⟩ | refine ⟨_,_,hr,?_⟩ | fail)
 all_goals (conv=>whnf)
 all_goals (exact PV.le.refl _)
end Go.Ab.Td

/- A part of the proof: the texts TdDp. Under: nothing. -/
import Derived.Test.YtngmifmcohmfmaaDoorG42
set_option linter.unusedVariables false
namespace Go.Ab.Td
set_option maxRecDepth 100000
set_option maxRecDepth 100000
open Go Go.Ab
variable {P:Program}
set_option linter.unusedSimpArgs false
attribute [local irreducible] j6
set_option maxHeartbeats 8000000 in
theorem b3w (C:Laid P) (s t:Q0) (e:Int) (hr:l9 P G n4 [.ref [.func (.func i6) [aS s] []],.ref [pI 2],.ref (b0E s),.ref [.func (.func v5) [aS s] []]] [] (.s9 [aS t,pI e])):l9 P G k7 [aS s,.str [102,105,110,100,114,101,115,111,117,114,99,101]] [] (.s9 [aS t,pI e]):=by
 refine l7 C (V2 C) rfl ?_
 repeat' ((conv=>whnf);first | (with_reducible refine sC (by kernel_rfl) ?_) | ((first | (with_reducible first | refine sB ?_ | refine A2 ?_ | refine A3 ?_) | refine sP (by rfl) ?_);first | refine oT ?_ | refine oF ?_ | (refine Or.inr (Or.inr ⟨fun hsp=>?_,fun hsp=>?_⟩) <;>(try simp only [nm] at hsp) <;>try subst hsp)) | refine ⟨_,_,T1 C s _ _,?_⟩ | refine ⟨_,_,hr,?_⟩ | fail)
 all_goals (conv=>whnf)
 all_goals (exact PV.le.refl _)
end Go.Ab.Td

/- A part of the proof: the texts TdXd0. Under: nothing. -/
import Derived.Test.YtomfaadmmchdcaaDoorG08
import Derived.Test.YtomfaadmmchdcaaDoorG25
set_option linter.unusedVariables false
namespace Go.Ab.Td
set_option maxRecDepth 100000
set_option maxRecDepth 100000
open Go Go.Ab
variable {P:Program}
set_option linter.unusedSimpArgs false
attribute [local irreducible] g8
set_option maxHeartbeats 8000000 in
theorem b9D (C:Laid P) (s:C3) (op:List UInt8) (hin:¬ op ∈ k7):l8 P G p9 [aS s,.str op] [] (.p7 [aS s,pI 24]):=by
 refine j3 C (P5 C) rfl ?_
 have h1:op≠[100,101,102,105,110,101,114,101,115,111,117,114,99,101]:=fun h=>hin (by rw [h];decide)
 have h2:op≠[102,105,110,100,114,101,115,111,117,114,99,101]:=fun h=>hin (by rw [h];decide)
 have h3:op≠[117,110,100,101,102,105,110,101,114,101,115,111,117,114,99,101]:=fun h=>hin (by rw [h];decide)
 have h4:op≠[114,101,115,111,117,114,99,101,115,116,97,116,117,115]:=fun h=>hin (by rw [h];decide)
 repeat' ((conv=>whnf);first | (with_reducible refine sC (by kernel_rfl) ?_) | ((first | (with_reducible first | refine sB ?_ | refine x4 ?_ | refine x5 ?_) | refine sP (by rfl) ?_);first | refine oT ?_ | refine oF ?_ | (refine Or.inr (Or.inr ⟨fun hsp=>?_,fun hsp=>?_⟩) <;>(try simp only [nm] at hsp) <;>try subst hsp)) | refine ⟨_,_,M7 C s _ _,?_⟩ | (rw [A4 h4,A4 h3,A4 h2,A4 h1]) | fail)
 all_goals (conv=>whnf)
 all_goals (first | exact PV.le.refl _ | (trace_state;sorry))
end Go.Ab.Td

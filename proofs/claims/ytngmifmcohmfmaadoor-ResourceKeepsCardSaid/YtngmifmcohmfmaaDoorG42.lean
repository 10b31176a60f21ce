/- A part of the proof: the texts TdDo. Under: nothing. -/
import Derived.Test.YtngmifmcohmfmaaDoorG07
import Derived.Test.YtngmifmcohmfmaaDoorG05
set_option linter.unusedVariables false
namespace Go.Ab.Td
set_option maxRecDepth 100000
set_option maxRecDepth 100000
open Go Go.Ab
variable {P:Program}
set_option linter.unusedSimpArgs false
set_option linter.unusedVariables false
attribute [local irreducible] j6
set_option maxHeartbeats 1000000 in
theorem T1 (C:Laid P) (s:Q0) (n:Int) (g:Nat):l9 P G H3 [pI n,.func (.func g) [aS s] [],.ref [.func (.func i6) [aS s] []],.ref (b0E s)] [] (.func (.func n4) [] [.ref [.func (.func i6) [aS s] []],.ref [pI n],.ref (b0E s),.ref [.func (.func g) [aS s] []]]):=by
 refine l7 C (a1P C) rfl ?_
 repeat' ((conv=>whnf);first | (with_reducible refine sC (by kernel_rfl) ?_) | ((with_reducible refine sB ?_);first | refine oT ?_ | refine oF ?_ | (refine Or.inr (Or.inr ⟨fun hsp=>?_,fun hsp=>?_⟩) <;>(try simp only [nm] at hsp) <;>try subst hsp)) | ((with_reducible refine A2 ?_);first | refine oT ?_ | refine oF ?_ | (refine Or.inr (Or.inr ⟨fun hsp=>?_,fun hsp=>?_⟩) <;>(try simp only [nm] at hsp) <;>try subst hsp)) | ((with_reducible refine A3 ?_);first | refine oT ?_ | refine oF ?_ | (refine Or.inr (Or.inr ⟨fun hsp=>?_,fun hsp=>?_⟩) <;>(try simp only [nm] at hsp) <;>try subst hsp)) | ((refine sP (by rfl) ?_);first | refine oT ?_ | refine oF ?_ | (refine Or.inr (Or.inr ⟨fun hsp=>?_,fun hsp=>?_⟩) <;>(try simp only [nm] at hsp) <;>try subst hsp)) | fail)
 all_goals (conv=>whnf)
 all_goals (exact PV.le.refl _)
set_option maxHeartbeats 8000000 in
theorem a8s (C:Laid P) (s t:Q0) (e:Int) (hr:l9 P G n4 [.ref [.func (.func i6) [aS s] []],.ref [pI 3],.ref (b0E s),.ref [.func (.func l0) [aS s] []]] [] (.s9 [aS t,pI e])):l9 P G k7 [aS s,.str a3q] [] (.s9 [aS t,pI e]):=by
 refine l7 C (V2 C) rfl ?_
 repeat' ((conv=>whnf);first | (with_reducible refine sC (by kernel_rfl) ?_) | ((with_reducible refine sB ?_);first | refine oT ?_ | refine oF ?_ | (refine Or.inr (Or.inr ⟨fun hsp=>?_,fun hsp=>?_⟩) <;>(try simp only [nm] at hsp) <;>try subst hsp)) | ((with_reducible refine A2 ?_);first | refine oT ?_ | refine oF ?_ | (refine Or.inr (Or.inr ⟨fun hsp=>?_,fun hsp=>?_⟩) <;>(try simp only [nm] at hsp) <;>try subst hsp)) | ((with_reducible refine A3 ?_);first | refine oT ?_ | refine oF ?_ | (refine Or.inr (Or.inr ⟨fun hsp=>?_,fun hsp=>?_⟩) <;>(try simp only [nm] at hsp) <;>try subst hsp)) | ((refine sP (by rfl) ?_);first | refine oT ?_ | refine oF ?_ | (refine Or.inr (Or.inr ⟨fun hsp=>?_,fun hsp=>?_⟩) <;>(try simp only [nm] at hsp) <;>try subst hsp)) | refine ⟨_,_,T1 C s _ _,?_⟩ | refine ⟨_,_,hr,?_⟩ | fail)
 all_goals (conv=>whnf)
 all_goals (exact PV.le.refl _)
end Go.Ab.Td

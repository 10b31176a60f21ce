/- A part of the proof: the texts TdDo. Under: nothing. -/
import Derived.Test.YtomfaadmmchdcaaDoorG07
import Derived.Test.YtomfaadmmchdcaaDoorG05
set_option linter.unusedVariables false
namespace Go.Ab.Td
set_option maxRecDepth 100000
set_option maxRecDepth 100000
open Go Go.Ab
variable {P:Program}
set_option linter.unusedSimpArgs false
set_option linter.unusedVariables false
attribute [local irreducible] g8
set_option maxHeartbeats 1000000 in
theorem M7 (C:Laid P) (s:C3) (n:Int) (g:Nat):l8 P G I7 [pI n,.func (.func g) [aS s] [],.ref [.func (.func g9) [aS s] []],.ref (a9P s)] [] (.func (.func m9) [] [.ref [.func (.func g9) [aS s] []],.ref [pI n],.ref (a9P s),.ref [.func (.func g) [aS s] []]]):=by
 refine j3 C (a2m C) rfl ?_
 repeat' ((conv=>whnf);first | (with_reducible refine sC (by kernel_rfl) ?_) | ((with_reducible refine sB ?_);first | refine oT ?_ | refine oF ?_ | (refine Or.inr (Or.inr ⟨fun hsp=>?_,fun hsp=>?_⟩) <;>(try simp only [nm] at hsp) <;>try subst hsp)) | ((with_reducible refine x4 ?_);first | refine oT ?_ | refine oF ?_ | (refine Or.inr (Or.inr ⟨fun hsp=>?_,fun hsp=>?_⟩) <;>(try simp only [nm] at hsp) <;>try subst hsp)) | ((with_reducible refine x5 ?_);first | refine oT ?_ | refine oF ?_ | (refine Or.inr (Or.inr ⟨fun hsp=>?_,fun hsp=>?_⟩) <;>(try simp only [nm] at hsp) <;>try subst hsp)) | ((refine sP (by rfl) ?_);first | refine oT ?_ | refine oF ?_ | (refine Or.inr (Or.inr ⟨fun hsp=>?_,fun hsp=>?_⟩) <;>(try simp only [nm] at hsp) <;>try subst hsp)) | fail)
 all_goals (conv=>whnf)
 all_goals (exact PV.le.refl _)
set_option maxHeartbeats 8000000 in
theorem a9n (C:Laid P) (s t:C3) (e:Int) (hr:l8 P G m9 [.ref [.func (.func g9) [aS s] []],.ref [pI 3],.ref (a9P s),.ref [.func (.func n6) [aS s] []]] [] (.p7 [aS t,pI e])):l8 P G p9 [aS s,.str o3] [] (.p7 [aS t,pI e]):=by
 refine j3 C (P5 C) rfl ?_
 repeat' ((conv=>whnf);first | (with_reducible refine sC (by kernel_rfl) ?_) | ((with_reducible refine sB ?_);first | refine oT ?_ | refine oF ?_ | (refine Or.inr (Or.inr ⟨fun hsp=>?_,fun hsp=>?_⟩) <;>(try simp only [nm] at hsp) <;>try subst hsp)) | ((with_reducible refine x4 ?_);first | refine oT ?_ | refine oF ?_ | (refine Or.inr (Or.inr ⟨fun hsp=>?_,fun hsp=>?_⟩) <;>(try simp only [nm] at hsp) <;>try subst hsp)) | ((with_reducible refine x5 ?_);first | refine oT ?_ | refine oF ?_ | (refine Or.inr (Or.inr ⟨fun hsp=>?_,fun hsp=>?_⟩) <;>(try simp only [nm] at hsp) <;>try subst hsp)) | ((refine sP (by rfl) ?_);first | refine oT ?_ | refine oF ?_ | (refine Or.inr (Or.inr ⟨fun hsp=>?_,fun hsp=>?_⟩) <;>(try simp only [nm] at hsp) <;>try subst hsp)) | refine ⟨_,_,M7 C s _ _,?_⟩ | refine ⟨_,_,hr,?_⟩ | fail)
 all_goals (conv=>whnf)
 all_goals (exact PV.le.refl _)
end Go.Ab.Td

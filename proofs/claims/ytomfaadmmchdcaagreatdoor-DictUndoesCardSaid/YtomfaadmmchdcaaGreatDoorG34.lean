/- A part of the proof: the texts TdZh1, TdZh2, TdZh3. Under: nothing. -/
import Derived.Test.YtomfaadmmchdcaaGreatDoorG33
import Derived.Test.YtomfaadmmchdcaaGreatDoorG32
set_option linter.unusedVariables false
namespace Go.Ab.Td
set_option maxRecDepth 100000
set_option maxRecDepth 100000
open Go Go.Ab
variable {P:Program}
set_option linter.unusedSimpArgs false
attribute [local irreducible] e9
set_option maxHeartbeats 8000000 in
theorem ok_D_begin (C:Laid P) (s t:B8) (e:Int) (h:l3 P G N6 [aS s] [] (.o0 [aS t,pI e])):l3 P G C5 [aS s,.str [98,101,103,105,110]] [] (.o0 [aS t,pI e]):=by
 refine k8 C (a6Z C) rfl ?_
 repeat' ((conv=>whnf);first | (with_reducible refine sC (by kernel_rfl) ?_) | ((first | (with_reducible first | refine sB ?_ | refine z7 ?_ | refine z8 ?_) | refine sP (by rfl) ?_);first | refine oT ?_ | refine oF ?_ | (refine Or.inr (Or.inr ⟨fun hsp=>?_,fun hsp=>?_⟩) <;>(try simp only [nm] at hsp) <;>try subst hsp)) | refine ⟨_,_,h,?_⟩ | fail)
 all_goals (conv=>whnf)
 all_goals (first | exact PV.le.refl _ | ((repeat' (first | (with_reducible exact PV.le.refl _) | exact PV.le.emp _ | exact E6.nil | (with_reducible refine p8 ?_) | (with_reducible refine o6 ?_) | (refine E6.cons ?_ ?_) | (with_reducible refine l0 ?_) | (with_reducible refine q8 ?_) | (with_reducible refine A9 ?_) | (with_reducible refine z9 ?_) | (with_reducible refine o3 ?_) | (refine A8 ?_))) <;>first | rfl | exact le_of_eq rfl))
set_option maxHeartbeats 8000000 in
theorem ok_D_end (C:Laid P) (s t:B8) (e:Int) (h:l3 P G U7 [aS s] [] (.o0 [aS t,pI e])):l3 P G C5 [aS s,.str [101,110,100]] [] (.o0 [aS t,pI e]):=by
 refine k8 C (a6Z C) rfl ?_
 repeat' ((conv=>whnf);first | (with_reducible refine sC (by kernel_rfl) ?_) | ((first | (with_reducible first | refine sB ?_ | refine z7 ?_ | refine z8 ?_) | refine sP (by rfl) ?_);first | refine oT ?_ | refine oF ?_ | (refine Or.inr (Or.inr ⟨fun hsp=>?_,fun hsp=>?_⟩) <;>(try simp only [nm] at hsp) <;>try subst hsp)) | refine ⟨_,_,h,?_⟩ | fail)
 all_goals (conv=>whnf)
 all_goals (first | exact PV.le.refl _ | ((repeat' (first | (with_reducible exact PV.le.refl _) | exact PV.le.emp _ | exact E6.nil | (with_reducible refine p8 ?_) | (with_reducible refine o6 ?_) | (refine E6.cons ?_ ?_) | (with_reducible refine l0 ?_) | (with_reducible refine q8 ?_) | (with_reducible refine A9 ?_) | (with_reducible refine z9 ?_) | (with_reducible refine o3 ?_) | (refine A8 ?_))) <;>first | rfl | exact le_of_eq rfl))
set_option maxHeartbeats 8000000 in
theorem ok_D_def (C:Laid P) (s t:B8) (e:Int) (h:l3 P G U6 [aS s] [] (.o0 [aS t,pI e])):l3 P G C5 [aS s,.str [100,101,102]] [] (.o0 [aS t,pI e]):=by
 refine k8 C (a6Z C) rfl ?_
 repeat' ((conv=>whnf);first | (with_reducible refine sC (by kernel_rfl) ?_) | ((first | (with_reducible first | refine sB ?_ | refine z7 ?_ | refine z8 ?_) | refine sP (by rfl) ?_);first | refine oT ?_ | refine oF ?_ | (refine Or.inr (Or.inr ⟨fun hsp=>?_,fun hsp=>?_⟩) <;>(try simp only [nm] at hsp) <;>try subst hsp)) | refine ⟨_,_,h,?_⟩ | fail)
 all_goals (conv=>whnf)
 all_goals (first | exact PV.le.refl _ | ((repeat' (first | (with_reducible exact PV.le.refl _) | exact PV.le.emp _ | exact E6.nil | (with_reducible refine p8 ?_) | (with_reducible refine o6 ?_) | (refine E6.cons ?_ ?_) | (with_reducible refine l0 ?_) | (with_reducible refine q8 ?_) | (with_reducible refine A9 ?_) | (with_reducible refine z9 ?_) | (with_reducible refine o3 ?_) | (refine A8 ?_))) <;>first | rfl | exact le_of_eq rfl))
set_option maxHeartbeats 8000000 in
theorem b8M (C:Laid P) (s t:B8) (e:Int) (h:l3 P G C6 [aS s] [] (.o0 [aS t,pI e])):l3 P G C5 [aS s,.str [108,111,97,100]] [] (.o0 [aS t,pI e]):=by
 refine k8 C (a6Z C) rfl ?_
 repeat' ((conv=>whnf);first | (with_reducible refine sC (by kernel_rfl) ?_) | ((first | (with_reducible first | refine sB ?_ | refine z7 ?_ | refine z8 ?_) | refine sP (by rfl) ?_);first | refine oT ?_ | refine oF ?_ | (refine Or.inr (Or.inr ⟨fun hsp=>?_,fun hsp=>?_⟩) <;>(try simp only [nm] at hsp) <;>try subst hsp)) | refine ⟨_,_,h,?_⟩ | fail)
 all_goals (conv=>whnf)
 all_goals (first | exact PV.le.refl _ | ((repeat' (first | (with_reducible exact PV.le.refl _) | exact PV.le.emp _ | exact E6.nil | (with_reducible refine p8 ?_) | (with_reducible refine o6 ?_) | (refine E6.cons ?_ ?_) | (with_reducible refine l0 ?_) | (with_reducible refine q8 ?_) | (with_reducible refine A9 ?_) | (with_reducible refine z9 ?_) | (with_reducible refine o3 ?_) | (refine A8 ?_))) <;>first | rfl | exact le_of_eq rfl))
end Go.Ab.Td
namespace Go.Ab.Td
set_option maxRecDepth 100000
set_option maxRecDepth 100000
open Go Go.Ab
variable {P:Program}
set_option linter.unusedSimpArgs false
attribute [local irreducible] e9
set_option maxHeartbeats 8000000 in
theorem ok_D_known (C:Laid P) (s t:B8) (e:Int) (h:l3 P G N7 [aS s] [] (.o0 [aS t,pI e])):l3 P G C5 [aS s,.str [107,110,111,119,110]] [] (.o0 [aS t,pI e]):=by
 refine k8 C (a6Z C) rfl ?_
 repeat' ((conv=>whnf);first | (with_reducible refine sC (by kernel_rfl) ?_) | ((first | (with_reducible first | refine sB ?_ | refine z7 ?_ | refine z8 ?_) | refine sP (by rfl) ?_);first | refine oT ?_ | refine oF ?_ | (refine Or.inr (Or.inr ⟨fun hsp=>?_,fun hsp=>?_⟩) <;>(try simp only [nm] at hsp) <;>try subst hsp)) | refine ⟨_,_,h,?_⟩ | fail)
 all_goals (conv=>whnf)
 all_goals (first | exact PV.le.refl _ | ((repeat' (first | (with_reducible exact PV.le.refl _) | exact PV.le.emp _ | exact E6.nil | (with_reducible refine p8 ?_) | (with_reducible refine o6 ?_) | (refine E6.cons ?_ ?_) | (with_reducible refine l0 ?_) | (with_reducible refine q8 ?_) | (with_reducible refine A9 ?_) | (with_reducible refine z9 ?_) | (with_reducible refine o3 ?_) | (refine A8 ?_))) <;>first | rfl | exact le_of_eq rfl))
set_option maxHeartbeats 8000000 in
theorem ok_D_undef (C:Laid P) (s t:B8) (e:Int) (h:l3 P G N8 [aS s] [] (.o0 [aS t,pI e])):l3 P G C5 [aS s,.str [117,110,100,101,102]] [] (.o0 [aS t,pI e]):=by
 refine k8 C (a6Z C) rfl ?_
 repeat' ((conv=>whnf);first | (with_reducible refine sC (by kernel_rfl) ?_) | ((first | (with_reducible first | refine sB ?_ | refine z7 ?_ | refine z8 ?_) | refine sP (by rfl) ?_);first | refine oT ?_ | refine oF ?_ | (refine Or.inr (Or.inr ⟨fun hsp=>?_,fun hsp=>?_⟩) <;>(try simp only [nm] at hsp) <;>try subst hsp)) | refine ⟨_,_,h,?_⟩ | fail)
 all_goals (conv=>whnf)
 all_goals (first | exact PV.le.refl _ | ((repeat' (first | (with_reducible exact PV.le.refl _) | exact PV.le.emp _ | exact E6.nil | (with_reducible refine p8 ?_) | (with_reducible refine o6 ?_) | (refine E6.cons ?_ ?_) | (with_reducible refine l0 ?_) | (with_reducible refine q8 ?_) | (with_reducible refine A9 ?_) | (with_reducible refine z9 ?_) | (with_reducible refine o3 ?_) | (refine A8 ?_))) <;>first | rfl | exact le_of_eq rfl))
set_option maxHeartbeats 8000000 in
theorem a8g (C:Laid P) (s t:B8) (e:Int) (h:l3 P G s9 [aS s] [] (.o0 [aS t,pI e])):l3 P G C5 [aS s,.str [119,104,101,114,101]] [] (.o0 [aS t,pI e]):=by
 refine k8 C (a6Z C) rfl ?_
 repeat' ((conv=>whnf);first | (with_reducible refine sC (by kernel_rfl) ?_) | ((first | (with_reducible first | refine sB ?_ | refine z7 ?_ | refine z8 ?_) | refine sP (by rfl) ?_);first | refine oT ?_ | refine oF ?_ | (refine Or.inr (Or.inr ⟨fun hsp=>?_,fun hsp=>?_⟩) <;>(try simp only [nm] at hsp) <;>try subst hsp)) | refine ⟨_,_,h,?_⟩ | fail)
 all_goals (conv=>whnf)
 all_goals (first | exact PV.le.refl _ | ((repeat' (first | (with_reducible exact PV.le.refl _) | exact PV.le.emp _ | exact E6.nil | (with_reducible refine p8 ?_) | (with_reducible refine o6 ?_) | (refine E6.cons ?_ ?_) | (with_reducible refine l0 ?_) | (with_reducible refine q8 ?_) | (with_reducible refine A9 ?_) | (with_reducible refine z9 ?_) | (with_reducible refine o3 ?_) | (refine A8 ?_))) <;>first | rfl | exact le_of_eq rfl))
set_option maxHeartbeats 8000000 in
theorem ok_D_currentdict (C:Laid P) (s t:B8) (e:Int) (h:l3 P G B4 [aS s] [] (.o0 [aS t,pI e])):l3 P G C5 [aS s,.str [99,117,114,114,101,110,116,100,105,99,116]] [] (.o0 [aS t,pI e]):=by
 refine k8 C (a6Z C) rfl ?_
 repeat' ((conv=>whnf);first | (with_reducible refine sC (by kernel_rfl) ?_) | ((first | (with_reducible first | refine sB ?_ | refine z7 ?_ | refine z8 ?_) | refine sP (by rfl) ?_);first | refine oT ?_ | refine oF ?_ | (refine Or.inr (Or.inr ⟨fun hsp=>?_,fun hsp=>?_⟩) <;>(try simp only [nm] at hsp) <;>try subst hsp)) | refine ⟨_,_,h,?_⟩ | fail)
 all_goals (conv=>whnf)
 all_goals (first | exact PV.le.refl _ | ((repeat' (first | (with_reducible exact PV.le.refl _) | exact PV.le.emp _ | exact E6.nil | (with_reducible refine p8 ?_) | (with_reducible refine o6 ?_) | (refine E6.cons ?_ ?_) | (with_reducible refine l0 ?_) | (with_reducible refine q8 ?_) | (with_reducible refine A9 ?_) | (with_reducible refine z9 ?_) | (with_reducible refine o3 ?_) | (refine A8 ?_))) <;>first | rfl | exact le_of_eq rfl))
set_option maxHeartbeats 8000000 in
theorem ok_D_countdictstack (C:Laid P) (s t:B8) (e:Int) (h:l3 P G y0 [aS s] [] (.o0 [aS t,pI e])):l3 P G C5 [aS s,.str [99,111,117,110,116,100,105,99,116,115,116,97,99,107]] [] (.o0 [aS t,pI e]):=by
 refine k8 C (a6Z C) rfl ?_
 repeat' ((conv=>whnf);first | (with_reducible refine sC (by kernel_rfl) ?_) | ((first | (with_reducible first | refine sB ?_ | refine z7 ?_ | refine z8 ?_) | refine sP (by rfl) ?_);first | refine oT ?_ | refine oF ?_ | (refine Or.inr (Or.inr ⟨fun hsp=>?_,fun hsp=>?_⟩) <;>(try simp only [nm] at hsp) <;>try subst hsp)) | refine ⟨_,_,h,?_⟩ | fail)
 all_goals (conv=>whnf)
 all_goals (first | exact PV.le.refl _ | ((repeat' (first | (with_reducible exact PV.le.refl _) | exact PV.le.emp _ | exact E6.nil | (with_reducible refine p8 ?_) | (with_reducible refine o6 ?_) | (refine E6.cons ?_ ?_) | (with_reducible refine l0 ?_) | (with_reducible refine q8 ?_) | (with_reducible refine A9 ?_) | (with_reducible refine z9 ?_) | (with_reducible refine o3 ?_) | (refine A8 ?_))) <;>first | rfl | exact le_of_eq rfl))
set_option maxHeartbeats 8000000 in
theorem ok_D_maxlength (C:Laid P) (s t:B8) (e:Int) (h:l3 P G D8 [aS s] [] (.o0 [aS t,pI e])):l3 P G C5 [aS s,.str [109,97,120,108,101,110,103,116,104]] [] (.o0 [aS t,pI e]):=by
 refine k8 C (a6Z C) rfl ?_
 repeat' ((conv=>whnf);first | (with_reducible refine sC (by kernel_rfl) ?_) | ((first | (with_reducible first | refine sB ?_ | refine z7 ?_ | refine z8 ?_) | refine sP (by rfl) ?_);first | refine oT ?_ | refine oF ?_ | (refine Or.inr (Or.inr ⟨fun hsp=>?_,fun hsp=>?_⟩) <;>(try simp only [nm] at hsp) <;>try subst hsp)) | refine ⟨_,_,h,?_⟩ | fail)
 all_goals (conv=>whnf)
 all_goals (first | exact PV.le.refl _ | ((repeat' (first | (with_reducible exact PV.le.refl _) | exact PV.le.emp _ | exact E6.nil | (with_reducible refine p8 ?_) | (with_reducible refine o6 ?_) | (refine E6.cons ?_ ?_) | (with_reducible refine l0 ?_) | (with_reducible refine q8 ?_) | (with_reducible refine A9 ?_) | (with_reducible refine z9 ?_) | (with_reducible refine o3 ?_) | (refine A8 ?_))) <;>first | rfl | exact le_of_eq rfl))
end Go.Ab.Td
namespace Go.Ab.Td
set_option maxRecDepth 100000
set_option maxRecDepth 100000
open Go Go.Ab
variable {P:Program}
set_option linter.unusedSimpArgs false
attribute [local irreducible] e9
set_option maxHeartbeats 8000000 in
theorem ok_D_length (C:Laid P) (s t:B8) (e:Int) (h:l3 P G K3 [aS s] [] (.o0 [aS t,pI e])):l3 P G C5 [aS s,.str [108,101,110,103,116,104]] [] (.o0 [aS t,pI e]):=by
 refine k8 C (a6Z C) rfl ?_
 repeat' ((conv=>whnf);first | (with_reducible refine sC (by kernel_rfl) ?_) | ((first | (with_reducible first | refine sB ?_ | refine z7 ?_ | refine z8 ?_) | refine sP (by rfl) ?_);first | refine oT ?_ | refine oF ?_ | (refine Or.inr (Or.inr ⟨fun hsp=>?_,fun hsp=>?_⟩) <;>(try simp only [nm] at hsp) <;>try subst hsp)) | refine ⟨_,_,h,?_⟩ | fail)
 all_goals (conv=>whnf)
 all_goals (first | exact PV.le.refl _ | ((repeat' (first | (with_reducible exact PV.le.refl _) | exact PV.le.emp _ | exact E6.nil | (with_reducible refine p8 ?_) | (with_reducible refine o6 ?_) | (refine E6.cons ?_ ?_) | (with_reducible refine l0 ?_) | (with_reducible refine q8 ?_) | (with_reducible refine A9 ?_) | (with_reducible refine z9 ?_) | (with_reducible refine o3 ?_) | (refine A8 ?_))) <;>first | rfl | exact le_of_eq rfl))
set_option maxHeartbeats 8000000 in
theorem ok_D_get (C:Laid P) (s t:B8) (e:Int) (h:l3 P G U8 [aS s] [] (.o0 [aS t,pI e])):l3 P G C5 [aS s,.str [103,101,116]] [] (.o0 [aS t,pI e]):=by
 refine k8 C (a6Z C) rfl ?_
 repeat' ((conv=>whnf);first | (with_reducible refine sC (by kernel_rfl) ?_) | ((first | (with_reducible first | refine sB ?_ | refine z7 ?_ | refine z8 ?_) | refine sP (by rfl) ?_);first | refine oT ?_ | refine oF ?_ | (refine Or.inr (Or.inr ⟨fun hsp=>?_,fun hsp=>?_⟩) <;>(try simp only [nm] at hsp) <;>try subst hsp)) | refine ⟨_,_,h,?_⟩ | fail)
 all_goals (conv=>whnf)
 all_goals (first | exact PV.le.refl _ | ((repeat' (first | (with_reducible exact PV.le.refl _) | exact PV.le.emp _ | exact E6.nil | (with_reducible refine p8 ?_) | (with_reducible refine o6 ?_) | (refine E6.cons ?_ ?_) | (with_reducible refine l0 ?_) | (with_reducible refine q8 ?_) | (with_reducible refine A9 ?_) | (with_reducible refine z9 ?_) | (with_reducible refine o3 ?_) | (refine A8 ?_))) <;>first | rfl | exact le_of_eq rfl))
set_option maxHeartbeats 8000000 in
theorem ok_D_put (C:Laid P) (s t:B8) (e:Int) (h:l3 P G U9 [aS s] [] (.o0 [aS t,pI e])):l3 P G C5 [aS s,.str [112,117,116]] [] (.o0 [aS t,pI e]):=by
 refine k8 C (a6Z C) rfl ?_
 repeat' ((conv=>whnf);first | (with_reducible refine sC (by kernel_rfl) ?_) | ((first | (with_reducible first | refine sB ?_ | refine z7 ?_ | refine z8 ?_) | refine sP (by rfl) ?_);first | refine oT ?_ | refine oF ?_ | (refine Or.inr (Or.inr ⟨fun hsp=>?_,fun hsp=>?_⟩) <;>(try simp only [nm] at hsp) <;>try subst hsp)) | refine ⟨_,_,h,?_⟩ | fail)
 all_goals (conv=>whnf)
 all_goals (first | exact PV.le.refl _ | ((repeat' (first | (with_reducible exact PV.le.refl _) | exact PV.le.emp _ | exact E6.nil | (with_reducible refine p8 ?_) | (with_reducible refine o6 ?_) | (refine E6.cons ?_ ?_) | (with_reducible refine l0 ?_) | (with_reducible refine q8 ?_) | (with_reducible refine A9 ?_) | (with_reducible refine z9 ?_) | (with_reducible refine o3 ?_) | (refine A8 ?_))) <;>first | rfl | exact le_of_eq rfl))
end Go.Ab.Td

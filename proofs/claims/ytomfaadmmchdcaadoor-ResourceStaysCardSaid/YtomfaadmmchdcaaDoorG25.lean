/- A part of the proof: the texts TdL, TdFi. Under: nothing. -/
import Derived.Test.YtomfaadmmchdcaaDoorG24
import Derived.Test.YtomfaadmmchdcaaDoorG18
import Derived.Test.YtomfaadmmchdcaaDoorG19
import Derived.Test.YtomfaadmmchdcaaDoorG21
set_option linter.unusedVariables false
namespace Go.Ab.Td
set_option maxRecDepth 100000
set_option maxRecDepth 100000
open Go Go.Ab
variable {P:Program}
set_option linter.unusedSimpArgs false
set_option linter.unusedVariables false
attribute [local irreducible] g8
set_option maxHeartbeats 1000000 in
theorem b3w (C:Laid P) (s:List UInt8):l8 P G r9 [.str s] [] (aO (W4 s)):=by
 refine j3 C (a9b C) rfl ?_
 repeat' ((conv=>whnf);first | (with_reducible refine sC (by kernel_rfl) ?_) | ((with_reducible refine sB ?_);first | refine oT ?_ | refine oF ?_ | (refine Or.inr (Or.inr ⟨fun hsp=>?_,fun hsp=>?_⟩) <;>(try simp only [nm] at hsp) <;>try subst hsp)) | ((with_reducible refine x4 ?_);first | refine oT ?_ | refine oF ?_ | (refine Or.inr (Or.inr ⟨fun hsp=>?_,fun hsp=>?_⟩) <;>(try simp only [nm] at hsp) <;>try subst hsp)) | ((with_reducible refine x5 ?_);first | refine oT ?_ | refine oF ?_ | (refine Or.inr (Or.inr ⟨fun hsp=>?_,fun hsp=>?_⟩) <;>(try simp only [nm] at hsp) <;>try subst hsp)) | ((refine sP (by rfl) ?_);first | refine oT ?_ | refine oF ?_ | (refine Or.inr (Or.inr ⟨fun hsp=>?_,fun hsp=>?_⟩) <;>(try simp only [nm] at hsp) <;>try subst hsp)) | fail)
 all_goals (conv=>whnf)
 all_goals (exact PV.le.refl _)
end Go.Ab.Td
namespace Go.Ab.Td
set_option maxRecDepth 100000
set_option maxRecDepth 100000
open Go Go.Ab
variable {P:Program}
set_option linter.unusedSimpArgs false
attribute [local irreducible] g8
def st3 (s:C3) (k o:Ob) (c:List UInt8):C3:={s with ops:=[k,o,W4 c]}
def k7:List (List UInt8):=[[100,101,102,105,110,101,114,101,115,111,117,114,99,101],[102,105,110,100,114,101,115,111,117,114,99,101],[117,110,100,101,102,105,110,101,114,101,115,111,117,114,99,101],[114,101,115,111,117,114,99,101,115,116,97,116,117,115]]
set_option maxHeartbeats 1000000 in
theorem n4 (C:Laid P):l8 P G X4 [] [] (.sl 1 (k7.map fun x=>[PV.str x])):=by
 refine j3 C (b3q C) rfl ?_
 repeat' ((conv=>whnf);first | (with_reducible refine sC (by kernel_rfl) ?_) | ((first | (with_reducible first | refine sB ?_ | refine x4 ?_ | refine x5 ?_) | refine sP (by rfl) ?_);first | refine oT ?_ | refine oF ?_ | (refine Or.inr (Or.inr ⟨fun hsp=>?_,fun hsp=>?_⟩) <;>(try simp only [nm] at hsp) <;>try subst hsp)) | fail)
 all_goals (conv=>whnf)
 all_goals (exact PV.le.refl _)
theorem b6v (C:Laid P):l8 P G A8 [] [(0,0)] (.sl 1 (b0S.map fun c=>[PV.str c])):=by
 refine b0d C.mixed (Z9 C) (ext:=noX) (fun _ _ h=>by cases h) (tab:=noT) (x8:=noT) (d:=0) (fun _ _ h=>by cases h) (fun _ _ h=>by cases h) rfl ?_
 conv=>whnf
 exact ⟨_,_,rfl,rfl⟩
noncomputable def rfO (h:List Cl) (c:List UInt8) (k:Ob):Ob:=if a4k h (W4 c)=0 then b4L h (a7V h (W4 c)) k else A2
noncomputable def rfE (h:List Cl) (c:List UInt8) (k:Ob):Int:=if a4k h (W4 c)=0 then a5S h (a7V h (W4 c)) k else a4k h (W4 c)
end Go.Ab.Td

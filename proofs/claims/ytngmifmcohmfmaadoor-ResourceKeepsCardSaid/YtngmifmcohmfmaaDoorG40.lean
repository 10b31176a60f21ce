/- A part of the proof: the texts TdW18, TdL, TdFi, TdFj, TdFk. Under: nothing. -/
import Derived.Test.YtngmifmcohmfmaaDoorG07
import Derived.Test.YtngmifmcohmfmaaDoorG05
import Derived.KernelRfl
import Derived.Test.YtngmifmcohmfmaaDoorG31
import Derived.Test.YtngmifmcohmfmaaDoorG24
import Derived.Test.YtngmifmcohmfmaaDoorG27
import Derived.Test.YtngmifmcohmfmaaDoorG30
import Derived.Test.YtngmifmcohmfmaaDoorG35
set_option linter.unusedVariables false
namespace Go.Ab.Td.TdW18
set_option maxRecDepth 100000
set_option maxRecDepth 100000
open Go Go.Ab Go.Ab.Td
variable {P:Program}
set_option linter.unusedSimpArgs false
def a1T:TF:=(.node (.node (.node (.node (.node (.node (.node (.leaf v7 G9) (.node (.leaf I7 a2W) (.leaf F6 a0c))) .nil) (.node (.node (.leaf N4 a2c) (.leaf p7 a1M)) (.leaf z7 G3))) (.node (.node (.node (.leaf r9 a0h) (.leaf x7 X5)) (.leaf u4 a0b)) (.node .nil (.node (.leaf x1 G2) (.leaf V5 a3z))))) (.node (.node (.leaf L2 a0f) (.leaf L3 a0O)) (.node (.leaf u2 R7) (.node (.leaf Y9 a5K) (.node (.node (.leaf I6 a1Y) (.leaf C6 M8)) (.leaf n4 P7)))))) (.node (.node (.node .nil (.node (.node (.leaf v8 M7) (.leaf F4 a3A)) (.leaf A4 I1))) (.node (.node (.leaf x9 a1j) (.node (.node (.leaf S7 a4H) (.leaf D4 a0e)) (.leaf J4 a1i))) (.node .nil (.node (.leaf C5 X4) (.leaf i6 J3))))) (.node (.node (.node .nil (.node (.node (.leaf B5 a2X) (.leaf y4 K0)) .nil)) (.node (.leaf q8 D2) (.node (.leaf z6 G1) (.leaf J5 a1k)))) (.node (.node (.node (.leaf w7 R8) (.leaf x2 a2a)) (.leaf q9 K4)) (.node (.leaf S8 a4J) (.leaf v5 G7)))))) (.node (.node (.node (.node (.leaf C9 a1Z) (.node (.node (.leaf O3 a1l) (.leaf J6 a7j)) (.node (.node (.leaf O2 a3B) (.leaf L1 a0d)) .nil))) (.node (.node (.node (.leaf A1 a2d) (.leaf s7 X6)) (.leaf E6 W1)) (.node (.leaf B1 a0g) (.node (.leaf y6 a0i) (.leaf a6y a8I))))) (.node (.leaf x5 H9) (.node (.node (.leaf x6 M6) (.node (.leaf L4 a0R) (.leaf A6 V1))) (.node .nil (.node (.leaf S6 a2b) (.leaf l0 G6)))))) (.node (.node (.node (.leaf O1 a3w) (.node (.leaf B4 K1) (.node (.node (.leaf k7 a3D) (.leaf E7 W2)) .nil))) (.node .nil (.node (.leaf S9 a4K) (.leaf H3 W3)))) (.node (.node (.node (.leaf O4 a3C) (.leaf u5 D9)) (.node (.leaf u6 K5) (.node (.leaf B0 P6) (.leaf S4 a8H)))) (.node (.node (.node (.leaf B2 J9) (.leaf n7 a4G)) .nil) (.node (.leaf y1 a0Q) (.node (.node (.leaf A9 a4C) (.leaf E0 P5)) (.leaf r7 G8))))))))
def a1U:TF:=.nil
def b5V:TF:=(.node (.node (.node (.leaf r9 a0h) (.leaf n4 P7)) (.node .nil (.node (.leaf J5 a1k) (.leaf x2 a2a)))) (.node (.leaf A6 V1) (.leaf H3 W3)))
def b5W:TF:=.nil
def ext (_:Nat):Option a3t:=none
theorem c2S (C:Laid P):a1T.all (i5 P)=true:=by simp only [a1T,TF.all,a3d C,a5T C,a8j C,b1N C,V2 C,a4h C,a4Y C,a7r C,a3b C,a0p C,a3G C,a6U C,a2I C,a2J C,Y1 C,a4Z C,a8i C,a5w C,b0U C,a6T C,a4j C,a2C C,a1N C,a3H C,a3J C,a6S C,b7q C,b1M C,b7r C,C8 C,a1P C,I5 C,B9 C,T6 C,H0 C,T7 C,a2h C,a5c C,a1p C,a1a C,a1b C,U4 C,a5b C,a3I C,Y2 C,a1W C,M1 C,Y8 C,a8n C,a5X C,a8m C,a2G C,Q6 C,U5 C,K8 C,a2F C,a4k C,Y7 C,P1 C,a2E C,Q7 C,a1O C,O9 C,a0r C,P0 C,a3e C,a2H C,Y3 C,a5a C,a0q C,a2D C,Bool.and_self]
theorem c2U (_C:Laid P):a1U.all (i5 P)=true:=by simp only [a1U,TF.all,Bool.and_self]
theorem c2T (C:Laid P):b5V.all (i5 P)=true:=by simp only [b5V,TF.all,a1P C,I5 C,a2h C,a3J C,a6S C,a4Z C,Bool.and_self]
theorem c2V (_C:Laid P):b5W.all (a0k P)=true:=by simp only [b5W,TF.all,Bool.and_self]
theorem b8S:a5t P G fun g=>(ext g).map b0H:=by
 intro g h hg
 cases hg
theorem b3s:∀ g ps own r,kn0 g ps=some (own,r)→l9 P G g ps own r:=fun _ _ _ _ h=>by cases h
theorem run:isR [] (.bool true) ((a4O G kn0 ext b5V.fn b5W.fn a1T.fn a1U.fn 10000 20).call O2 [])=true:=by kernel_rfl
theorem ok (C:Laid P):l9 P G O2 [] [] (.bool true):=a9b C.mixed b3s b8S (TF.i3 (c2T C)) (TF.i3 (c2V C)) (TF.i3 (c2S C)) (TF.i3 (c2U C)) (b5s run)
end Go.Ab.Td.TdW18
namespace Go.Ab.Td
set_option maxRecDepth 100000
set_option maxRecDepth 100000
open Go Go.Ab
variable {P:Program}
set_option linter.unusedSimpArgs false
set_option linter.unusedVariables false
attribute [local irreducible] j6
def c4q:PV:=.sl 1 (a1y.map fun c=>[PV.str c])
set_option maxHeartbeats 1000000 in
theorem V6 (C:Laid P) (s:List UInt8):l9 P G n7 [.str s] [] (aO (D1 s)):=by
 refine l7 C (a8i C) rfl ?_
 repeat' ((conv=>whnf);first | (with_reducible refine sC (by kernel_rfl) ?_) | ((with_reducible refine sB ?_);first | refine oT ?_ | refine oF ?_ | (refine Or.inr (Or.inr ⟨fun hsp=>?_,fun hsp=>?_⟩) <;>(try simp only [nm] at hsp) <;>try subst hsp)) | ((with_reducible refine A2 ?_);first | refine oT ?_ | refine oF ?_ | (refine Or.inr (Or.inr ⟨fun hsp=>?_,fun hsp=>?_⟩) <;>(try simp only [nm] at hsp) <;>try subst hsp)) | ((with_reducible refine A3 ?_);first | refine oT ?_ | refine oF ?_ | (refine Or.inr (Or.inr ⟨fun hsp=>?_,fun hsp=>?_⟩) <;>(try simp only [nm] at hsp) <;>try subst hsp)) | ((refine sP (by rfl) ?_);first | refine oT ?_ | refine oF ?_ | (refine Or.inr (Or.inr ⟨fun hsp=>?_,fun hsp=>?_⟩) <;>(try simp only [nm] at hsp) <;>try subst hsp)) | fail)
 all_goals (conv=>whnf)
 all_goals (exact PV.le.refl _)
set_option maxHeartbeats 1000000 in
theorem J7 (C:Laid P) (s:Q0) (l:List Ob):l9 P G x2 [aS s,.sl 7 (List.map m6 l)] [] (aS {s with ops:=l}):=by
 refine l7 C (a4Z C) rfl ?_
 repeat' ((conv=>whnf);first | (with_reducible refine sC (by kernel_rfl) ?_) | ((with_reducible refine sB ?_);first | refine oT ?_ | refine oF ?_ | (refine Or.inr (Or.inr ⟨fun hsp=>?_,fun hsp=>?_⟩) <;>(try simp only [nm] at hsp) <;>try subst hsp)) | ((with_reducible refine A2 ?_);first | refine oT ?_ | refine oF ?_ | (refine Or.inr (Or.inr ⟨fun hsp=>?_,fun hsp=>?_⟩) <;>(try simp only [nm] at hsp) <;>try subst hsp)) | ((with_reducible refine A3 ?_);first | refine oT ?_ | refine oF ?_ | (refine Or.inr (Or.inr ⟨fun hsp=>?_,fun hsp=>?_⟩) <;>(try simp only [nm] at hsp) <;>try subst hsp)) | ((refine sP (by rfl) ?_);first | refine oT ?_ | refine oF ?_ | (refine Or.inr (Or.inr ⟨fun hsp=>?_,fun hsp=>?_⟩) <;>(try simp only [nm] at hsp) <;>try subst hsp)) | fail)
 all_goals (conv=>whnf)
 all_goals (exact PV.le.refl _)
set_option maxHeartbeats 1000000 in
theorem E9 (C:Laid P):l9 P G x6 [] [] (c4q):=by
 refine l7 C (Y1 C) rfl ?_
 repeat' ((conv=>whnf);first | (with_reducible refine sC (by kernel_rfl) ?_) | ((with_reducible refine sB ?_);first | refine oT ?_ | refine oF ?_ | (refine Or.inr (Or.inr ⟨fun hsp=>?_,fun hsp=>?_⟩) <;>(try simp only [nm] at hsp) <;>try subst hsp)) | ((with_reducible refine A2 ?_);first | refine oT ?_ | refine oF ?_ | (refine Or.inr (Or.inr ⟨fun hsp=>?_,fun hsp=>?_⟩) <;>(try simp only [nm] at hsp) <;>try subst hsp)) | ((with_reducible refine A3 ?_);first | refine oT ?_ | refine oF ?_ | (refine Or.inr (Or.inr ⟨fun hsp=>?_,fun hsp=>?_⟩) <;>(try simp only [nm] at hsp) <;>try subst hsp)) | ((refine sP (by rfl) ?_);first | refine oT ?_ | refine oF ?_ | (refine Or.inr (Or.inr ⟨fun hsp=>?_,fun hsp=>?_⟩) <;>(try simp only [nm] at hsp) <;>try subst hsp)) | fail)
 all_goals (conv=>whnf)
 all_goals (exact PV.le.refl _)
end Go.Ab.Td
namespace Go.Ab.Td
set_option maxRecDepth 100000
open Go Go.Ab
variable {P:Program}
set_option linter.unusedSimpArgs false
attribute [local irreducible] j6
def st3 (s:Q0) (k o:Ob) (c:List UInt8):Q0:={s with ops:=[k,o,D1 c]}
def a7u:List (List UInt8):=[[100,101,102,105,110,101,114,101,115,111,117,114,99,101],[102,105,110,100,114,101,115,111,117,114,99,101],[117,110,100,101,102,105,110,101,114,101,115,111,117,114,99,101],[114,101,115,111,117,114,99,101,115,116,97,116,117,115]]
noncomputable def rfO (h:List Cl) (c:List UInt8) (k:Ob):Ob:=if a7n h (D1 c)=0 then a9N h (a4b h (D1 c)) k else L5
noncomputable def rfE (h:List Cl) (c:List UInt8) (k:Ob):Int:=if a7n h (D1 c)=0 then a9M h (a4b h (D1 c)) k else a7n h (D1 c)
end Go.Ab.Td
namespace Go.Ab.Td
set_option maxRecDepth 100000
open Go Go.Ab
variable {P:Program}
set_option linter.unusedSimpArgs false
attribute [local irreducible] j6
end Go.Ab.Td
namespace Go.Ab.Td
set_option maxRecDepth 100000
set_option maxRecDepth 100000
open Go Go.Ab
variable {P:Program}
set_option linter.unusedSimpArgs false
attribute [local irreducible] j6
set_option maxHeartbeats 1000000 in
theorem T3 (C:Laid P) (s:Q0) (c:List UInt8) (k:Ob) (hs:nOk s):l9 P G p7 [aS s,.str c,aO k] [] (.s9 [aO (rfO s.heap c k),pI (rfE s.heap c k)]):=by
 refine l7 C (a5w C) rfl ?_
 have hdn:=c0T hs (D1 c)
 have r1:rfO s.heap c k=if a7n s.heap (D1 c)=0 then a9N s.heap (a4b s.heap (D1 c)) k else L5:=rfl
 have r2:rfE s.heap c k=if a7n s.heap (D1 c)=0 then a9M s.heap (a4b s.heap (D1 c)) k else a7n s.heap (D1 c):=rfl
 by_cases hd0:a7n s.heap (D1 c)=0
 all_goals simp only [hd0,if_true,if_false] at r1 r2
 all_goals rw [r1,r2]
 repeat' ((conv=>whnf);first | (with_reducible refine sC (by kernel_rfl) ?_) | ((first | (with_reducible first | refine sB ?_ | refine A2 ?_ | refine A3 ?_) | refine sP (by rfl) ?_);first | refine oT ?_ | refine oF ?_ | (refine Or.inr (Or.inr ⟨fun hsp=>?_,fun hsp=>?_⟩) <;>(try simp only [nm] at hsp) <;>try subst hsp)) | refine ⟨_,_,n5 C s (D1 c) hs,?_⟩ | refine ⟨_,_,J8 C s (a4b s.heap (D1 c)) k hs hdn,?_⟩ | fail)
 all_goals (conv=>whnf)
 all_goals (exact PV.le.refl _)
end Go.Ab.Td

/- A part of the proof: the texts TdKi, TdRA, TdRB, TdRC. Under: nothing. -/
import Derived.Test.YtngmifmcohmfmaaDoorG21
import Derived.Test.YtngmifmcohmfmaaDoorG19
import Derived.Test.YtngmifmcohmfmaaDoorG05
set_option linter.unusedVariables false
namespace Go.Ab.Td
set_option maxRecDepth 100000
set_option maxRecDepth 100000
open Go Go.Ab
variable {P:Program}
set_option linter.unusedSimpArgs false
attribute [local irreducible] j6
def b3v (h:List Cl) (c:Cl):Prop:=Z8 c∧b1P c∧a5d h c
theorem b2Z {h:List Cl} (ht:¬ F3 0 h>20000) {c:Cl} (hc:c ∈ h) (hb:¬ b3v h c):b1G h=210:=by
 unfold b1G
 rw [if_neg ht,if_neg (fun hp=>hb (hp c hc))]
set_option maxHeartbeats 4000000 in
theorem b1S (C:Laid P) (h:List Cl) (hs:small h) (hn:∀ c ∈ h,∀ l ∈ a2M c,∀ o ∈ l,o.n<9223372036854775808):l9 P G A8 [.sl 7 (List.map m9 h)] [] (pI (b1G h)):=by
 refine l7 C (a8g C) rfl ?_
 have hl:h.length<2 ^ 62:=by have:=hs.1;omega
 by_cases ht:F3 0 h>20000
 ·have e:b1G h=210:=by unfold b1G;rw [if_pos ht]
  rw [e]
  repeat' ((conv=>whnf);first | (with_reducible refine sC (by kernel_rfl) ?_) | ((first | (with_reducible first | refine sB ?_ | refine A2 ?_ | refine A3 ?_) | refine sP (by rfl) ?_);first | refine oT ?_ | refine oF ?_ | (refine Or.inr (Or.inr ⟨fun hsp=>?_,fun hsp=>?_⟩) <;>(try simp only [nm,List.length_map] at hsp) <;>try subst hsp)) | refine ⟨_,_,a6Z C h hl,?_⟩ | fail)
  all_goals (conv=>whnf)
  all_goals exact PV.le.refl _
 ·repeat' ((conv=>whnf);first | (with_reducible refine sC (by kernel_rfl) ?_) | ((first | (with_reducible first | refine sB ?_ | refine A2 ?_ | refine A3 ?_) | refine sP (by rfl) ?_);first | refine oT ?_ | refine oF ?_ | (refine Or.inr (Or.inr ⟨fun hsp=>?_,fun hsp=>?_⟩) <;>(try simp only [nm,List.length_map] at hsp) <;>try subst hsp)) | refine ⟨_,_,a6Z C h hl,?_⟩ | fail)
  all_goals (conv=>whnf)
  intro X hX hW
  refine a6V hX (fun st (i:Nat)=>st.upd [(16,.pv (pI (i:Int)))] []) (fun i k=>i+k=h.length∧∀ j,j<i→∀ c,h[j]?=some c→b3v h c) 0 h.length (by (conv=>whnf);first | done | rfl) ⟨by simp,by intro j hj;omega⟩ ?_
  intro m i ih hI
  rcases a5u h i with ⟨x,hlt,hx⟩ | hge
  ·have hrow:=T4 (f:=m9) hx
   have hm:=List.mem_of_getElem? hx
   have kB:=a7v C h x (hs.2 x hm)
   have kL:=a5B C h x
   have kK:=a6I C h x (hs.2 x hm) (hn x hm)
   by_cases hb:Z8 x
   ·rw [show tt (Z8 x)=true from a2l.mpr hb] at kB
    by_cases hli:b1P x
    ·rw [show tt (b1P x)=true from a2l.mpr hli] at kL
     by_cases hk:a5d h x
     ·rw [show tt (a5d h x)=true from a2l.mpr hk] at kK
      repeat' ((conv=>whnf);first | (with_reducible refine sC (by kernel_rfl) ?_) | ((first | (with_reducible first | refine sB ?_ | refine A2 ?_ | refine A3 ?_) | refine sP (by rfl) ?_);first | refine oT ?_ | refine oF ?_ | (refine Or.inr (Or.inr ⟨fun hsp=>?_,fun hsp=>?_⟩) <;>(try simp only [nm,List.length_map] at hsp) <;>try subst hsp)) | refine ⟨_,_,kB,?_⟩ | refine ⟨_,_,kL,?_⟩ | refine ⟨_,_,kK,?_⟩ | (intro Y hY hWY) | refine hY _ ?_ | refine sS (i4 (by rfl) (by rfl) (by omega) hrow) ?_ | fail)
      all_goals (conv=>whnf)
      all_goals (refine ih (m - 1) (i+1) _ (by omega) ⟨by (try dsimp only);omega,?_⟩ (by (conv=>whnf);first | done | rfl | (simp (disch:=omega) only [H8])))
      all_goals (intro j hj c hc;by_cases e:j<i;(·exact hI.2 j e c hc);have e2:j=i:=(by omega);subst e2;rw [hx] at hc;cases hc;exact ⟨hb,hli,hk⟩)
     ·rw [show tt (a5d h x)=false from a1J.mpr hk] at kK
      rw [b2Z ht hm (fun hp=>hk hp.2.2)]
      repeat' ((conv=>whnf);first | (with_reducible refine sC (by kernel_rfl) ?_) | ((first | (with_reducible first | refine sB ?_ | refine A2 ?_ | refine A3 ?_) | refine sP (by rfl) ?_);first | refine oT ?_ | refine oF ?_ | (refine Or.inr (Or.inr ⟨fun hsp=>?_,fun hsp=>?_⟩) <;>(try simp only [nm,List.length_map] at hsp) <;>try subst hsp)) | refine ⟨_,_,kB,?_⟩ | refine ⟨_,_,kL,?_⟩ | refine ⟨_,_,kK,?_⟩ | (intro Y hY hWY) | refine hY _ ?_ | refine sS (i4 (by rfl) (by rfl) (by omega) hrow) ?_ | fail)
      all_goals (conv=>whnf)
      all_goals exact PV.le.refl _
    ·rw [show tt (b1P x)=false from a1J.mpr hli] at kL
     rw [b2Z ht hm (fun hp=>hli hp.2.1)]
     repeat' ((conv=>whnf);first | (with_reducible refine sC (by kernel_rfl) ?_) | ((first | (with_reducible first | refine sB ?_ | refine A2 ?_ | refine A3 ?_) | refine sP (by rfl) ?_);first | refine oT ?_ | refine oF ?_ | (refine Or.inr (Or.inr ⟨fun hsp=>?_,fun hsp=>?_⟩) <;>(try simp only [nm,List.length_map] at hsp) <;>try subst hsp)) | refine ⟨_,_,kB,?_⟩ | refine ⟨_,_,kL,?_⟩ | refine ⟨_,_,kK,?_⟩ | (intro Y hY hWY) | refine hY _ ?_ | refine sS (i4 (by rfl) (by rfl) (by omega) hrow) ?_ | fail)
     all_goals (conv=>whnf)
     all_goals exact PV.le.refl _
   ·rw [show tt (Z8 x)=false from a1J.mpr hb] at kB
    rw [b2Z ht hm (fun hp=>hb hp.1)]
    repeat' ((conv=>whnf);first | (with_reducible refine sC (by kernel_rfl) ?_) | ((first | (with_reducible first | refine sB ?_ | refine A2 ?_ | refine A3 ?_) | refine sP (by rfl) ?_);first | refine oT ?_ | refine oF ?_ | (refine Or.inr (Or.inr ⟨fun hsp=>?_,fun hsp=>?_⟩) <;>(try simp only [nm,List.length_map] at hsp) <;>try subst hsp)) | refine ⟨_,_,kB,?_⟩ | refine ⟨_,_,kL,?_⟩ | refine ⟨_,_,kK,?_⟩ | (intro Y hY hWY) | refine hY _ ?_ | refine sS (i4 (by rfl) (by rfl) (by omega) hrow) ?_ | fail)
    all_goals (conv=>whnf)
    all_goals exact PV.le.refl _
  ·have e:b1G h=0:=by
    unfold b1G
    rw [if_neg ht,if_pos]
    intro c hc
    obtain ⟨q,hq⟩:=List.getElem?_of_mem hc
    exact hI.2 q (by have:=(List.getElem?_eq_some_iff.1 hq).1;omega) c hq
   rw [e]
   repeat' ((conv=>whnf);first | (with_reducible refine sC (by kernel_rfl) ?_) | ((first | (with_reducible first | refine sB ?_ | refine A2 ?_ | refine A3 ?_) | refine sP (by rfl) ?_);first | refine oT ?_ | refine oF ?_ | (refine Or.inr (Or.inr ⟨fun hsp=>?_,fun hsp=>?_⟩) <;>(try simp only [nm,List.length_map] at hsp) <;>try subst hsp)) | fail)
   all_goals (conv=>whnf)
   all_goals exact PV.le.refl _
end Go.Ab.Td
namespace Go.Ab.Td
set_option maxRecDepth 100000
open Go Go.Ab
variable {P:Program}
set_option linter.unusedSimpArgs false
attribute [local irreducible] j6
end Go.Ab.Td
namespace Go.Ab.Td
set_option maxRecDepth 100000
open Go Go.Ab
variable {P:Program}
set_option linter.unusedSimpArgs false
attribute [local irreducible] j6
end Go.Ab.Td
namespace Go.Ab.Td
set_option maxRecDepth 100000
open Go Go.Ab
variable {P:Program}
set_option linter.unusedSimpArgs false
attribute [local irreducible] j6
end Go.Ab.Td

/- A part of the proof: the texts TdKg, TdKi. Under: nothing. -/
import Derived.Test.YtngmifmcohmfmaaDoorG19
set_option linter.unusedVariables false
namespace Go.Ab.Td
set_option maxRecDepth 100000
set_option maxRecDepth 100000
open Go Go.Ab
variable {P:Program}
set_option linter.unusedSimpArgs false
attribute [local irreducible] e9
open Classical in
def a0K (c:Cl):Prop:=
 (c.kind=1∧(c.items.length+c.keys.length+c.x7.length=0∧c.max=0∧c.at'=0))∨(c.kind=2∧(c.bytes=[]∧c.keys.length+c.x7.length=0∧c.max=0∧c.at'=0))∨
 (c.kind=3∧(c.bytes=[]∧c.items.length=0∧c.at'=0))∨(c.kind=4∧c.items.length+c.keys.length+c.x7.length=0)
def b4G (c:Cl):Prop:=
 if c.kind=1 then c.bytes.length≤1000 else if c.kind=2 then c.items.length≤1000
 else if c.kind=3 then 0≤c.max∧c.max≤200∧c.keys.length=c.x7.length∧(c.keys.length:Int)≤c.max
 else c.bytes.length≤4000∧0≤c.at'∧c.at'≤c.bytes.length∧(c.max=0∨c.max=1)
open Classical in
noncomputable def b4l (h:List Cl):Int:=if o7 0 h>20000 then 210 else if ∀ c ∈ h,a0K c∧b4G c∧a6s h c then 0 else 210
set_option maxHeartbeats 1000000 in
theorem a8Z (C:Laid P) (h:List Cl) (c:Cl) (hs:c.small):j4 P G K9 [.agg [.sl 7 (List.map j8 h)],aC c] [] (.bool (tt (a0K c))):=by
 refine i5 C (a4o C) rfl ?_
 obtain ⟨s1,s2,s3,s4⟩:=hs
 have w1:IntKind.i64.wrap ((c.keys.length:Int)+c.x7.length)=(c.keys.length:Int)+c.x7.length:=wrap_small (by omega) (by omega)
 have w2:IntKind.i64.wrap ((c.items.length:Int)+((c.keys.length:Int)+c.x7.length))=(c.items.length:Int)+((c.keys.length:Int)+c.x7.length):=wrap_small (by omega) (by omega)
 have w3:IntKind.i64.wrap (c.items.length:Int)=(c.items.length:Int):=wrap_small (by omega) (by omega)
 have q:(c.kind=1∧a0K c=(c.items.length+c.keys.length+c.x7.length=0∧c.max=0∧c.at'=0))∨(c.kind=2∧a0K c=(c.bytes=[]∧c.keys.length+c.x7.length=0∧c.max=0∧c.at'=0))∨(c.kind=3∧a0K c=(c.bytes=[]∧c.items.length=0∧c.at'=0))∨(c.kind=4∧a0K c=(c.items.length+c.keys.length+c.x7.length=0))∨((c.kind≠1∧c.kind≠2∧c.kind≠3∧c.kind≠4)∧a0K c=False):=by
  by_cases h1:c.kind=1
  ·exact .inl ⟨h1,by simp [a0K,h1]⟩
  by_cases h2:c.kind=2
  ·exact .inr (.inl ⟨h2,by simp [a0K,h2]⟩)
  by_cases h3:c.kind=3
  ·exact .inr (.inr (.inl ⟨h3,by simp [a0K,h3]⟩))
  by_cases h4:c.kind=4
  ·exact .inr (.inr (.inr (.inl ⟨h4,by simp [a0K,h4]⟩)))
  ·exact .inr (.inr (.inr (.inr ⟨⟨h1,h2,h3,h4⟩,by simp [a0K,h1,h2,h3,h4]⟩)))
 rcases q with ⟨hk,e⟩ | ⟨hk,e⟩ | ⟨hk,e⟩ | ⟨hk,e⟩ | ⟨hk,e⟩
 all_goals rw [e]
 repeat' ((conv=>whnf);first | (with_reducible refine sC (by kernel_rfl) ?_) | ((first | (with_reducible first | refine sB ?_ | refine o5 ?_ | refine o6 ?_) | refine sP (by rfl) ?_);first | refine Or.inl ⟨by first | assumption | (simp only [nm,List.length_map,w1,w2];first | done | assumption | omega),?_⟩ | refine Or.inr (Or.inl ⟨by first | assumption | (simp only [nm,List.length_map,w1,w2];first | done | assumption | omega),?_⟩) | (refine Or.inr (Or.inr ⟨fun hsp=>?_,fun hsp=>?_⟩) <;>(try simp only [nm,List.length_map,w1,w2] at hsp) <;>try subst hsp)) | fail)
 all_goals (conv=>whnf)
 all_goals (first | (with_reducible refine A0 ?_) | (with_reducible refine y3 ?_) | (refine A3 ?_;try simp (disch:=omega) only [nm,wrap_small,List.length_map,w1,w2,w3])) <;>(first | omega | (refine ⟨?_,?_,?_⟩ <;>first | assumption | omega) | (refine ⟨?_,?_,?_,?_⟩ <;>first | assumption | omega) | (rintro ⟨h1,h2,h3⟩;first | contradiction | omega) | (rintro ⟨h1,h2,h3,h4⟩;first | contradiction | omega) | (constructor <;>intro hq <;>first | omega | (refine ⟨?_,?_,?_⟩ <;>first | assumption | omega) | (refine ⟨?_,?_,?_,?_⟩ <;>first | assumption | omega)) | grind)
set_option maxHeartbeats 1000000 in
theorem a6U (C:Laid P) (h:List Cl) (c:Cl):j4 P G E2 [.agg [.sl 7 (List.map j8 h)],aC c] [] (.bool (tt (b4G c))):=by
 refine i5 C (a2p C) rfl ?_
 repeat' ((conv=>whnf);first | (with_reducible refine sC (by kernel_rfl) ?_) | ((first | (with_reducible first | refine sB ?_ | refine o5 ?_ | refine o6 ?_) | refine sP (by rfl) ?_);first | refine oT ?_ | refine oF ?_ | (refine Or.inr (Or.inr ⟨fun hsp=>?_,fun hsp=>?_⟩) <;>(try simp only [nm,List.length_map] at hsp) <;>try subst hsp)) | fail)
 all_goals (conv=>whnf)
 all_goals (first | (with_reducible refine A0 ?_) | (with_reducible refine y3 ?_) | (refine A3 ?_;try simp (disch:=omega) only [nm,wrap_small,List.length_map])) <;>(grind [b4G])
set_option maxHeartbeats 1000000 in
theorem a2d (C:Laid P) (h:List Cl) (hl:h.length<2 ^ 62):j4 P G G1 [.sl 7 (List.map j8 h)] [] (pI (o7 0 h)):=by
 refine i5 C (a6m C) rfl ?_
 repeat' ((conv=>whnf);first | (with_reducible refine sC (by kernel_rfl) ?_) | ((first | (with_reducible first | refine sB ?_ | refine o5 ?_ | refine o6 ?_) | refine sP (by rfl) ?_);first | refine oT ?_ | refine oF ?_ | (refine Or.inr (Or.inr ⟨fun hsp=>?_,fun hsp=>?_⟩) <;>(try simp only [nm] at hsp) <;>try subst hsp)) | fail)
 all_goals (conv=>whnf)
 intro X hX hW
 refine a2s hX (fun st (a:Nat × Int)=>st.upd [(3,.pv (pI a.2)),(8,.pv (pI (a.1:Int)))] []) (fun a m=>a.1+m=h.length∧(o7 0 h=o7 a.2 (h.drop a.1))) (0,0) h.length (by (conv=>whnf);first | done | rfl) (by simp) ?_
 intro m a ih hI
 rcases a0J h a.1 with ⟨x,hlt,hx⟩ | hge
 ·have hrow:=y9 (f:=j8) hx
  have hd:=W1 hx
  have hI2:=hI.2
  rw [hd] at hI2
  simp only [o7] at hI2
  repeat' ((conv=>whnf);first | (with_reducible refine sC (by kernel_rfl) ?_) | ((first | (with_reducible first | refine sB ?_ | refine o5 ?_ | refine o6 ?_) | refine sP (by rfl) ?_);first | refine oT ?_ | refine oF ?_ | (refine Or.inr (Or.inr ⟨fun hsp=>?_,fun hsp=>?_⟩) <;>(try simp only [nm,List.length_map] at hsp) <;>try subst hsp)) | refine ⟨_,_,a7v C x.kind x.bytes x.items x.keys x.x7 x.max x.at',?_⟩ | refine sS (e7 (by rfl) (by rfl) (by omega) hrow) ?_ | fail)
  all_goals (conv=>whnf)
  all_goals first
   | (refine ih (m - 1) (a.1+1,(IntKind.i64.wrap (a.2+x.size))) _ (by omega) ⟨by (try dsimp only);omega,?_⟩ (by (conv=>whnf);first | done | rfl | (simp (disch:=omega) only [A7])))
   | (with_reducible first | refine j9 ?_ | refine A0 ?_ | refine y3 ?_)
   | (refine A3 ?_;simp only [nm])
   | refine le_of_eq ?_
  all_goals grind
 ·have hd:h.drop a.1=[]:=List.drop_eq_nil_of_le hge
  have hI2:=hI.2
  rw [hd] at hI2
  simp only [o7] at hI2
  repeat' ((conv=>whnf);first | (with_reducible refine sC (by kernel_rfl) ?_) | ((first | (with_reducible first | refine sB ?_ | refine o5 ?_ | refine o6 ?_) | refine sP (by rfl) ?_);first | refine oT ?_ | refine oF ?_ | (refine Or.inr (Or.inr ⟨fun hsp=>?_,fun hsp=>?_⟩) <;>(try simp only [nm,List.length_map] at hsp) <;>try subst hsp)) | refine ⟨_,_,a7v C x.kind x.bytes x.items x.keys x.x7 x.max x.at',?_⟩ | fail)
  all_goals (conv=>whnf)
  all_goals first
   | (with_reducible first | refine j9 ?_ | refine A0 ?_ | refine y3 ?_)
   | (refine A3 ?_;simp only [nm])
   | refine le_of_eq ?_
  all_goals grind
end Go.Ab.Td
namespace Go.Ab.Td
set_option maxRecDepth 100000
set_option maxRecDepth 100000
open Go Go.Ab
variable {P:Program}
set_option linter.unusedSimpArgs false
attribute [local irreducible] e9
def b6E (h:List Cl) (c:Cl):Prop:=a0K c∧b4G c∧a6s h c
theorem b6f {h:List Cl} (ht:¬ o7 0 h>20000) {c:Cl} (hc:c ∈ h) (hb:¬ b6E h c):b4l h=210:=by
 unfold b4l
 rw [if_neg ht,if_neg (fun hp=>hb (hp c hc))]
set_option maxHeartbeats 4000000 in
theorem b4M (C:Laid P) (h:List Cl) (hs:small h) (hn:∀ c ∈ h,∀ l ∈ a3O c,∀ o ∈ l,o.n<9223372036854775808):j4 P G K8 [.sl 7 (List.map j8 h)] [] (pI (b4l h)):=by
 refine i5 C (a9V C) rfl ?_
 have hl:h.length<2 ^ 62:=by have:=hs.1;omega
 by_cases ht:o7 0 h>20000
 ·have e:b4l h=210:=by unfold b4l;rw [if_pos ht]
  rw [e]
  repeat' ((conv=>whnf);first | (with_reducible refine sC (by kernel_rfl) ?_) | ((first | (with_reducible first | refine sB ?_ | refine o5 ?_ | refine o6 ?_) | refine sP (by rfl) ?_);first | refine oT ?_ | refine oF ?_ | (refine Or.inr (Or.inr ⟨fun hsp=>?_,fun hsp=>?_⟩) <;>(try simp only [nm,List.length_map] at hsp) <;>try subst hsp)) | refine ⟨_,_,a2d C h hl,?_⟩ | fail)
  all_goals (conv=>whnf)
  all_goals exact PV.le.refl _
 ·repeat' ((conv=>whnf);first | (with_reducible refine sC (by kernel_rfl) ?_) | ((first | (with_reducible first | refine sB ?_ | refine o5 ?_ | refine o6 ?_) | refine sP (by rfl) ?_);first | refine oT ?_ | refine oF ?_ | (refine Or.inr (Or.inr ⟨fun hsp=>?_,fun hsp=>?_⟩) <;>(try simp only [nm,List.length_map] at hsp) <;>try subst hsp)) | refine ⟨_,_,a2d C h hl,?_⟩ | fail)
  all_goals (conv=>whnf)
  intro X hX hW
  refine a2s hX (fun st (i:Nat)=>st.upd [(16,.pv (pI (i:Int)))] []) (fun i k=>i+k=h.length∧∀ j,j<i→∀ c,h[j]?=some c→b6E h c) 0 h.length (by (conv=>whnf);first | done | rfl) ⟨by simp,by intro j hj;omega⟩ ?_
  intro m i ih hI
  rcases a0J h i with ⟨x,hlt,hx⟩ | hge
  ·have hrow:=y9 (f:=j8) hx
   have hm:=List.mem_of_getElem? hx
   have kB:=a8Z C h x (hs.2 x hm)
   have kL:=a6U C h x
   have kK:=a8e C h x (hs.2 x hm) (hn x hm)
   by_cases hb:a0K x
   ·rw [show tt (a0K x)=true from Q8.mpr hb] at kB
    by_cases hli:b4G x
    ·rw [show tt (b4G x)=true from Q8.mpr hli] at kL
     by_cases hk:a6s h x
     ·rw [show tt (a6s h x)=true from Q8.mpr hk] at kK
      repeat' ((conv=>whnf);first | (with_reducible refine sC (by kernel_rfl) ?_) | ((first | (with_reducible first | refine sB ?_ | refine o5 ?_ | refine o6 ?_) | refine sP (by rfl) ?_);first | refine oT ?_ | refine oF ?_ | (refine Or.inr (Or.inr ⟨fun hsp=>?_,fun hsp=>?_⟩) <;>(try simp only [nm,List.length_map] at hsp) <;>try subst hsp)) | refine ⟨_,_,kB,?_⟩ | refine ⟨_,_,kL,?_⟩ | refine ⟨_,_,kK,?_⟩ | (intro Y hY hWY) | refine hY _ ?_ | refine sS (e7 (by rfl) (by rfl) (by omega) hrow) ?_ | fail)
      all_goals (conv=>whnf)
      all_goals (refine ih (m - 1) (i+1) _ (by omega) ⟨by (try dsimp only);omega,?_⟩ (by (conv=>whnf);first | done | rfl | (simp (disch:=omega) only [A7])))
      all_goals (intro j hj c hc;by_cases e:j<i;(·exact hI.2 j e c hc);have e2:j=i:=(by omega);subst e2;rw [hx] at hc;cases hc;exact ⟨hb,hli,hk⟩)
     ·rw [show tt (a6s h x)=false from I2.mpr hk] at kK
      rw [b6f ht hm (fun hp=>hk hp.2.2)]
      repeat' ((conv=>whnf);first | (with_reducible refine sC (by kernel_rfl) ?_) | ((first | (with_reducible first | refine sB ?_ | refine o5 ?_ | refine o6 ?_) | refine sP (by rfl) ?_);first | refine oT ?_ | refine oF ?_ | (refine Or.inr (Or.inr ⟨fun hsp=>?_,fun hsp=>?_⟩) <;>(try simp only [nm,List.length_map] at hsp) <;>try subst hsp)) | refine ⟨_,_,kB,?_⟩ | refine ⟨_,_,kL,?_⟩ | refine ⟨_,_,kK,?_⟩ | (intro Y hY hWY) | refine hY _ ?_ | refine sS (e7 (by rfl) (by rfl) (by omega) hrow) ?_ | fail)
      all_goals (conv=>whnf)
      all_goals exact PV.le.refl _
    ·rw [show tt (b4G x)=false from I2.mpr hli] at kL
     rw [b6f ht hm (fun hp=>hli hp.2.1)]
     repeat' ((conv=>whnf);first | (with_reducible refine sC (by kernel_rfl) ?_) | ((first | (with_reducible first | refine sB ?_ | refine o5 ?_ | refine o6 ?_) | refine sP (by rfl) ?_);first | refine oT ?_ | refine oF ?_ | (refine Or.inr (Or.inr ⟨fun hsp=>?_,fun hsp=>?_⟩) <;>(try simp only [nm,List.length_map] at hsp) <;>try subst hsp)) | refine ⟨_,_,kB,?_⟩ | refine ⟨_,_,kL,?_⟩ | refine ⟨_,_,kK,?_⟩ | (intro Y hY hWY) | refine hY _ ?_ | refine sS (e7 (by rfl) (by rfl) (by omega) hrow) ?_ | fail)
     all_goals (conv=>whnf)
     all_goals exact PV.le.refl _
   ·rw [show tt (a0K x)=false from I2.mpr hb] at kB
    rw [b6f ht hm (fun hp=>hb hp.1)]
    repeat' ((conv=>whnf);first | (with_reducible refine sC (by kernel_rfl) ?_) | ((first | (with_reducible first | refine sB ?_ | refine o5 ?_ | refine o6 ?_) | refine sP (by rfl) ?_);first | refine oT ?_ | refine oF ?_ | (refine Or.inr (Or.inr ⟨fun hsp=>?_,fun hsp=>?_⟩) <;>(try simp only [nm,List.length_map] at hsp) <;>try subst hsp)) | refine ⟨_,_,kB,?_⟩ | refine ⟨_,_,kL,?_⟩ | refine ⟨_,_,kK,?_⟩ | (intro Y hY hWY) | refine hY _ ?_ | refine sS (e7 (by rfl) (by rfl) (by omega) hrow) ?_ | fail)
    all_goals (conv=>whnf)
    all_goals exact PV.le.refl _
  ·have e:b4l h=0:=by
    unfold b4l
    rw [if_neg ht,if_pos]
    intro c hc
    obtain ⟨q,hq⟩:=List.getElem?_of_mem hc
    exact hI.2 q (by have:=(List.getElem?_eq_some_iff.1 hq).1;omega) c hq
   rw [e]
   repeat' ((conv=>whnf);first | (with_reducible refine sC (by kernel_rfl) ?_) | ((first | (with_reducible first | refine sB ?_ | refine o5 ?_ | refine o6 ?_) | refine sP (by rfl) ?_);first | refine oT ?_ | refine oF ?_ | (refine Or.inr (Or.inr ⟨fun hsp=>?_,fun hsp=>?_⟩) <;>(try simp only [nm,List.length_map] at hsp) <;>try subst hsp)) | fail)
   all_goals (conv=>whnf)
   all_goals exact PV.le.refl _
end Go.Ab.Td

/- A part of the proof: the texts TdKg, TdKi. Under: nothing. -/
import Derived.Test.YtngmifmcohmfmaaDoorG18
set_option linter.unusedVariables false
namespace Go.Ab.Td
set_option maxRecDepth 100000
set_option maxRecDepth 100000
open Go Go.Ab
variable {P:Program}
set_option linter.unusedSimpArgs false
attribute [local irreducible] f0
open Classical in
def a0G (c:Cl):Prop:=
 (c.kind=1∧(c.items.length+c.keys.length+c.x8.length=0∧c.max=0∧c.at'=0))∨(c.kind=2∧(c.bytes=[]∧c.keys.length+c.x8.length=0∧c.max=0∧c.at'=0))∨
 (c.kind=3∧(c.bytes=[]∧c.items.length=0∧c.at'=0))∨(c.kind=4∧c.items.length+c.keys.length+c.x8.length=0)
def b4v (c:Cl):Prop:=
 if c.kind=1 then c.bytes.length≤1000 else if c.kind=2 then c.items.length≤1000
 else if c.kind=3 then 0≤c.max∧c.max≤200∧c.keys.length=c.x8.length∧(c.keys.length:Int)≤c.max
 else c.bytes.length≤4000∧0≤c.at'∧c.at'≤c.bytes.length∧(c.max=0∨c.max=1)
open Classical in
noncomputable def b4a (h:List Cl):Int:=if o8 0 h>20000 then 210 else if ∀ c ∈ h,a0G c∧b4v c∧a6b h c then 0 else 210
set_option maxHeartbeats 1000000 in
theorem a8J (C:Laid P) (h:List Cl) (c:Cl) (hs:c.small):j5 P G K4 [.agg [.sl 7 (List.map j6 h)],aC c] [] (.bool (tt (a0G c))):=by
 refine i5 C (a4h C) rfl ?_
 obtain ⟨s1,s2,s3,s4⟩:=hs
 have w1:IntKind.i64.wrap ((c.keys.length:Int)+c.x8.length)=(c.keys.length:Int)+c.x8.length:=wrap_small (by omega) (by omega)
 have w2:IntKind.i64.wrap ((c.items.length:Int)+((c.keys.length:Int)+c.x8.length))=(c.items.length:Int)+((c.keys.length:Int)+c.x8.length):=wrap_small (by omega) (by omega)
 have w3:IntKind.i64.wrap (c.items.length:Int)=(c.items.length:Int):=wrap_small (by omega) (by omega)
 have q:(c.kind=1∧a0G c=(c.items.length+c.keys.length+c.x8.length=0∧c.max=0∧c.at'=0))∨(c.kind=2∧a0G c=(c.bytes=[]∧c.keys.length+c.x8.length=0∧c.max=0∧c.at'=0))∨(c.kind=3∧a0G c=(c.bytes=[]∧c.items.length=0∧c.at'=0))∨(c.kind=4∧a0G c=(c.items.length+c.keys.length+c.x8.length=0))∨((c.kind≠1∧c.kind≠2∧c.kind≠3∧c.kind≠4)∧a0G c=False):=by
  by_cases h1:c.kind=1
  ·exact .inl ⟨h1,by simp [a0G,h1]⟩
  by_cases h2:c.kind=2
  ·exact .inr (.inl ⟨h2,by simp [a0G,h2]⟩)
  by_cases h3:c.kind=3
  ·exact .inr (.inr (.inl ⟨h3,by simp [a0G,h3]⟩))
  by_cases h4:c.kind=4
  ·exact .inr (.inr (.inr (.inl ⟨h4,by simp [a0G,h4]⟩)))
  ·exact .inr (.inr (.inr (.inr ⟨⟨h1,h2,h3,h4⟩,by simp [a0G,h1,h2,h3,h4]⟩)))
 rcases q with ⟨hk,e⟩ | ⟨hk,e⟩ | ⟨hk,e⟩ | ⟨hk,e⟩ | ⟨hk,e⟩
 all_goals rw [e]
 repeat' ((conv=>whnf);first | (with_reducible refine sC (by kernel_rfl) ?_) | ((first | (with_reducible first | refine sB ?_ | refine p8 ?_ | refine p9 ?_) | refine sP (by rfl) ?_);first | refine Or.inl ⟨by first | assumption | (simp only [nm,List.length_map,w1,w2];first | done | assumption | omega),?_⟩ | refine Or.inr (Or.inl ⟨by first | assumption | (simp only [nm,List.length_map,w1,w2];first | done | assumption | omega),?_⟩) | (refine Or.inr (Or.inr ⟨fun hsp=>?_,fun hsp=>?_⟩) <;>(try simp only [nm,List.length_map,w1,w2] at hsp) <;>try subst hsp)) | fail)
 all_goals (conv=>whnf)
 all_goals (first | (with_reducible refine A3 ?_) | (with_reducible refine y5 ?_) | (refine A4 ?_;try simp (disch:=omega) only [nm,wrap_small,List.length_map,w1,w2,w3])) <;>(first | omega | (refine ⟨?_,?_,?_⟩ <;>first | assumption | omega) | (refine ⟨?_,?_,?_,?_⟩ <;>first | assumption | omega) | (rintro ⟨h1,h2,h3⟩;first | contradiction | omega) | (rintro ⟨h1,h2,h3,h4⟩;first | contradiction | omega) | (constructor <;>intro hq <;>first | omega | (refine ⟨?_,?_,?_⟩ <;>first | assumption | omega) | (refine ⟨?_,?_,?_,?_⟩ <;>first | assumption | omega)) | grind)
set_option maxHeartbeats 1000000 in
theorem a6E (C:Laid P) (h:List Cl) (c:Cl):j5 P G D9 [.agg [.sl 7 (List.map j6 h)],aC c] [] (.bool (tt (b4v c))):=by
 refine i5 C (a2m C) rfl ?_
 repeat' ((conv=>whnf);first | (with_reducible refine sC (by kernel_rfl) ?_) | ((first | (with_reducible first | refine sB ?_ | refine p8 ?_ | refine p9 ?_) | refine sP (by rfl) ?_);first | refine oT ?_ | refine oF ?_ | (refine Or.inr (Or.inr ⟨fun hsp=>?_,fun hsp=>?_⟩) <;>(try simp only [nm,List.length_map] at hsp) <;>try subst hsp)) | fail)
 all_goals (conv=>whnf)
 all_goals (first | (with_reducible refine A3 ?_) | (with_reducible refine y5 ?_) | (refine A4 ?_;try simp (disch:=omega) only [nm,wrap_small,List.length_map])) <;>(grind [b4v])
set_option maxHeartbeats 1000000 in
theorem a2a (C:Laid P) (h:List Cl) (hl:h.length<2 ^ 62):j5 P G F7 [.sl 7 (List.map j6 h)] [] (pI (o8 0 h)):=by
 refine i5 C (a5W C) rfl ?_
 repeat' ((conv=>whnf);first | (with_reducible refine sC (by kernel_rfl) ?_) | ((first | (with_reducible first | refine sB ?_ | refine p8 ?_ | refine p9 ?_) | refine sP (by rfl) ?_);first | refine oT ?_ | refine oF ?_ | (refine Or.inr (Or.inr ⟨fun hsp=>?_,fun hsp=>?_⟩) <;>(try simp only [nm] at hsp) <;>try subst hsp)) | fail)
 all_goals (conv=>whnf)
 intro X hX hW
 refine a2p hX (fun st (a:Nat × Int)=>st.upd [(3,.pv (pI a.2)),(8,.pv (pI (a.1:Int)))] []) (fun a m=>a.1+m=h.length∧(o8 0 h=o8 a.2 (h.drop a.1))) (0,0) h.length (by (conv=>whnf);first | done | rfl) (by simp) ?_
 intro m a ih hI
 rcases a0t h a.1 with ⟨x,hlt,hx⟩ | hge
 ·have hrow:=y3 (f:=j6) hx
  have hd:=Z8 hx
  have hI2:=hI.2
  rw [hd] at hI2
  simp only [o8] at hI2
  repeat' ((conv=>whnf);first | (with_reducible refine sC (by kernel_rfl) ?_) | ((first | (with_reducible first | refine sB ?_ | refine p8 ?_ | refine p9 ?_) | refine sP (by rfl) ?_);first | refine oT ?_ | refine oF ?_ | (refine Or.inr (Or.inr ⟨fun hsp=>?_,fun hsp=>?_⟩) <;>(try simp only [nm,List.length_map] at hsp) <;>try subst hsp)) | refine ⟨_,_,a7e C x.kind x.bytes x.items x.keys x.x8 x.max x.at',?_⟩ | refine sS (e7 (by rfl) (by rfl) (by omega) hrow) ?_ | fail)
  all_goals (conv=>whnf)
  all_goals first
   | (refine ih (m - 1) (a.1+1,(IntKind.i64.wrap (a.2+x.size))) _ (by omega) ⟨by (try dsimp only);omega,?_⟩ (by (conv=>whnf);first | done | rfl | (simp (disch:=omega) only [A0])))
   | (with_reducible first | refine l0 ?_ | refine A3 ?_ | refine y5 ?_)
   | (refine A4 ?_;simp only [nm])
   | refine le_of_eq ?_
  all_goals grind
 ·have hd:h.drop a.1=[]:=List.drop_eq_nil_of_le hge
  have hI2:=hI.2
  rw [hd] at hI2
  simp only [o8] at hI2
  repeat' ((conv=>whnf);first | (with_reducible refine sC (by kernel_rfl) ?_) | ((first | (with_reducible first | refine sB ?_ | refine p8 ?_ | refine p9 ?_) | refine sP (by rfl) ?_);first | refine oT ?_ | refine oF ?_ | (refine Or.inr (Or.inr ⟨fun hsp=>?_,fun hsp=>?_⟩) <;>(try simp only [nm,List.length_map] at hsp) <;>try subst hsp)) | refine ⟨_,_,a7e C x.kind x.bytes x.items x.keys x.x8 x.max x.at',?_⟩ | fail)
  all_goals (conv=>whnf)
  all_goals first
   | (with_reducible first | refine l0 ?_ | refine A3 ?_ | refine y5 ?_)
   | (refine A4 ?_;simp only [nm])
   | refine le_of_eq ?_
  all_goals grind
end Go.Ab.Td
namespace Go.Ab.Td
set_option maxRecDepth 100000
set_option maxRecDepth 100000
open Go Go.Ab
variable {P:Program}
set_option linter.unusedSimpArgs false
attribute [local irreducible] f0
def b6p (h:List Cl) (c:Cl):Prop:=a0G c∧b4v c∧a6b h c
theorem b5R {h:List Cl} (ht:¬ o8 0 h>20000) {c:Cl} (hc:c ∈ h) (hb:¬ b6p h c):b4a h=210:=by
 unfold b4a
 rw [if_neg ht,if_neg (fun hp=>hb (hp c hc))]
set_option maxHeartbeats 4000000 in
theorem b4B (C:Laid P) (h:List Cl) (hs:small h) (hn:∀ c ∈ h,∀ l ∈ a3I c,∀ o ∈ l,o.n<9223372036854775808):j5 P G K3 [.sl 7 (List.map j6 h)] [] (pI (b4a h)):=by
 refine i5 C (a9B C) rfl ?_
 have hl:h.length<2 ^ 62:=by have:=hs.1;omega
 by_cases ht:o8 0 h>20000
 ·have e:b4a h=210:=by unfold b4a;rw [if_pos ht]
  rw [e]
  repeat' ((conv=>whnf);first | (with_reducible refine sC (by kernel_rfl) ?_) | ((first | (with_reducible first | refine sB ?_ | refine p8 ?_ | refine p9 ?_) | refine sP (by rfl) ?_);first | refine oT ?_ | refine oF ?_ | (refine Or.inr (Or.inr ⟨fun hsp=>?_,fun hsp=>?_⟩) <;>(try simp only [nm,List.length_map] at hsp) <;>try subst hsp)) | refine ⟨_,_,a2a C h hl,?_⟩ | fail)
  all_goals (conv=>whnf)
  all_goals exact PV.le.refl _
 ·repeat' ((conv=>whnf);first | (with_reducible refine sC (by kernel_rfl) ?_) | ((first | (with_reducible first | refine sB ?_ | refine p8 ?_ | refine p9 ?_) | refine sP (by rfl) ?_);first | refine oT ?_ | refine oF ?_ | (refine Or.inr (Or.inr ⟨fun hsp=>?_,fun hsp=>?_⟩) <;>(try simp only [nm,List.length_map] at hsp) <;>try subst hsp)) | refine ⟨_,_,a2a C h hl,?_⟩ | fail)
  all_goals (conv=>whnf)
  intro X hX hW
  refine a2p hX (fun st (i:Nat)=>st.upd [(16,.pv (pI (i:Int)))] []) (fun i k=>i+k=h.length∧∀ j,j<i→∀ c,h[j]?=some c→b6p h c) 0 h.length (by (conv=>whnf);first | done | rfl) ⟨by simp,by intro j hj;omega⟩ ?_
  intro m i ih hI
  rcases a0t h i with ⟨x,hlt,hx⟩ | hge
  ·have hrow:=y3 (f:=j6) hx
   have hm:=List.mem_of_getElem? hx
   have kB:=a8J C h x (hs.2 x hm)
   have kL:=a6E C h x
   have kK:=a7P C h x (hs.2 x hm) (hn x hm)
   by_cases hb:a0G x
   ·rw [show tt (a0G x)=true from Q5.mpr hb] at kB
    by_cases hli:b4v x
    ·rw [show tt (b4v x)=true from Q5.mpr hli] at kL
     by_cases hk:a6b h x
     ·rw [show tt (a6b h x)=true from Q5.mpr hk] at kK
      repeat' ((conv=>whnf);first | (with_reducible refine sC (by kernel_rfl) ?_) | ((first | (with_reducible first | refine sB ?_ | refine p8 ?_ | refine p9 ?_) | refine sP (by rfl) ?_);first | refine oT ?_ | refine oF ?_ | (refine Or.inr (Or.inr ⟨fun hsp=>?_,fun hsp=>?_⟩) <;>(try simp only [nm,List.length_map] at hsp) <;>try subst hsp)) | refine ⟨_,_,kB,?_⟩ | refine ⟨_,_,kL,?_⟩ | refine ⟨_,_,kK,?_⟩ | (intro Y hY hWY) | refine hY _ ?_ | refine sS (e7 (by rfl) (by rfl) (by omega) hrow) ?_ | fail)
      all_goals (conv=>whnf)
      all_goals (refine ih (m - 1) (i+1) _ (by omega) ⟨by (try dsimp only);omega,?_⟩ (by (conv=>whnf);first | done | rfl | (simp (disch:=omega) only [A0])))
      all_goals (intro j hj c hc;by_cases e:j<i;(·exact hI.2 j e c hc);have e2:j=i:=(by omega);subst e2;rw [hx] at hc;cases hc;exact ⟨hb,hli,hk⟩)
     ·rw [show tt (a6b h x)=false from H8.mpr hk] at kK
      rw [b5R ht hm (fun hp=>hk hp.2.2)]
      repeat' ((conv=>whnf);first | (with_reducible refine sC (by kernel_rfl) ?_) | ((first | (with_reducible first | refine sB ?_ | refine p8 ?_ | refine p9 ?_) | refine sP (by rfl) ?_);first | refine oT ?_ | refine oF ?_ | (refine Or.inr (Or.inr ⟨fun hsp=>?_,fun hsp=>?_⟩) <;>(try simp only [nm,List.length_map] at hsp) <;>try subst hsp)) | refine ⟨_,_,kB,?_⟩ | refine ⟨_,_,kL,?_⟩ | refine ⟨_,_,kK,?_⟩ | (intro Y hY hWY) | refine hY _ ?_ | refine sS (e7 (by rfl) (by rfl) (by omega) hrow) ?_ | fail)
      all_goals (conv=>whnf)
      all_goals exact PV.le.refl _
    ·rw [show tt (b4v x)=false from H8.mpr hli] at kL
     rw [b5R ht hm (fun hp=>hli hp.2.1)]
     repeat' ((conv=>whnf);first | (with_reducible refine sC (by kernel_rfl) ?_) | ((first | (with_reducible first | refine sB ?_ | refine p8 ?_ | refine p9 ?_) | refine sP (by rfl) ?_);first | refine oT ?_ | refine oF ?_ | (refine Or.inr (Or.inr ⟨fun hsp=>?_,fun hsp=>?_⟩) <;>(try simp only [nm,List.length_map] at hsp) <;>try subst hsp)) | refine ⟨_,_,kB,?_⟩ | refine ⟨_,_,kL,?_⟩ | refine ⟨_,_,kK,?_⟩ | (intro Y hY hWY) | refine hY _ ?_ | refine sS (e7 (by rfl) (by rfl) (by omega) hrow) ?_ | fail)
     all_goals (conv=>whnf)
     all_goals exact PV.le.refl _
   ·rw [show tt (a0G x)=false from H8.mpr hb] at kB
    rw [b5R ht hm (fun hp=>hb hp.1)]
    repeat' ((conv=>whnf);first | (with_reducible refine sC (by kernel_rfl) ?_) | ((first | (with_reducible first | refine sB ?_ | refine p8 ?_ | refine p9 ?_) | refine sP (by rfl) ?_);first | refine oT ?_ | refine oF ?_ | (refine Or.inr (Or.inr ⟨fun hsp=>?_,fun hsp=>?_⟩) <;>(try simp only [nm,List.length_map] at hsp) <;>try subst hsp)) | refine ⟨_,_,kB,?_⟩ | refine ⟨_,_,kL,?_⟩ | refine ⟨_,_,kK,?_⟩ | (intro Y hY hWY) | refine hY _ ?_ | refine sS (e7 (by rfl) (by rfl) (by omega) hrow) ?_ | fail)
    all_goals (conv=>whnf)
    all_goals exact PV.le.refl _
  ·have e:b4a h=0:=by
    unfold b4a
    rw [if_neg ht,if_pos]
    intro c hc
    obtain ⟨q,hq⟩:=List.getElem?_of_mem hc
    exact hI.2 q (by have:=(List.getElem?_eq_some_iff.1 hq).1;omega) c hq
   rw [e]
   repeat' ((conv=>whnf);first | (with_reducible refine sC (by kernel_rfl) ?_) | ((first | (with_reducible first | refine sB ?_ | refine p8 ?_ | refine p9 ?_) | refine sP (by rfl) ?_);first | refine oT ?_ | refine oF ?_ | (refine Or.inr (Or.inr ⟨fun hsp=>?_,fun hsp=>?_⟩) <;>(try simp only [nm,List.length_map] at hsp) <;>try subst hsp)) | fail)
   all_goals (conv=>whnf)
   all_goals exact PV.le.refl _
end Go.Ab.Td

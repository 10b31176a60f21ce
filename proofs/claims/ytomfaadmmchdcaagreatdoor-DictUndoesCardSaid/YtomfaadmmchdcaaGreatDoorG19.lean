/- A part of the proof: the texts TdKg, TdKi, TdRA, TdRB, TdRC, TdRD, TdRE, TdRF, TdRG, TdRH, TdRI, TdKj, TdKk. Under: nothing. -/
import Derived.Test.YtomfaadmmchdcaaGreatDoorG18
import Derived.Test.YtomfaadmmchdcaaGreatDoorG12
import Derived.Test.YtomfaadmmchdcaaGreatDoorG05
import Derived.Test.YtomfaadmmchdcaaGreatDoorG13
set_option linter.unusedVariables false
namespace Go.Ab.Td
set_option maxRecDepth 100000
set_option maxRecDepth 100000
open Go Go.Ab
variable {P:Program}
set_option linter.unusedSimpArgs false
attribute [local irreducible] e9
open Classical in
def bareP (c:Cl):Prop:=
 (c.kind=1∧(c.items.length+c.keys.length+c.B2.length=0∧c.max=0∧c.at'=0))∨(c.kind=2∧(c.bytes=[]∧c.keys.length+c.B2.length=0∧c.max=0∧c.at'=0))∨
 (c.kind=3∧(c.bytes=[]∧c.items.length=0∧c.at'=0))∨(c.kind=4∧c.items.length+c.keys.length+c.B2.length=0)
def limP (c:Cl):Prop:=
 if c.kind=1 then c.bytes.length≤1000 else if c.kind=2 then c.items.length≤1000
 else if c.kind=3 then 0≤c.max∧c.max≤200∧c.keys.length=c.B2.length∧(c.keys.length:Int)≤c.max
 else c.bytes.length≤4000∧0≤c.at'∧c.at'≤c.bytes.length∧(c.max=0∨c.max=1)
open Classical in
noncomputable def chkE (h:List Cl):Int:=if F8 0 h>20000 then 210 else if ∀ c ∈ h,bareP c∧limP c∧keyedP h c then 0 else 210
set_option maxHeartbeats 1000000 in
theorem ok_heap_store_bare (C:Laid P) (h:List Cl) (c:Cl) (hs:c.small):l3 P G n_heap_store_bare [.agg [.sl 7 (List.map j8 h)],aC c] [] (.bool (tt (bareP c))):=by
 refine k8 C (k_heap_store_bare C) rfl ?_
 obtain ⟨s1,s2,s3,s4⟩:=hs
 have w1:IntKind.i64.wrap ((c.keys.length:Int)+c.B2.length)=(c.keys.length:Int)+c.B2.length:=wrap_small (by omega) (by omega)
 have w2:IntKind.i64.wrap ((c.items.length:Int)+((c.keys.length:Int)+c.B2.length))=(c.items.length:Int)+((c.keys.length:Int)+c.B2.length):=wrap_small (by omega) (by omega)
 have w3:IntKind.i64.wrap (c.items.length:Int)=(c.items.length:Int):=wrap_small (by omega) (by omega)
 have q:(c.kind=1∧bareP c=(c.items.length+c.keys.length+c.B2.length=0∧c.max=0∧c.at'=0))∨(c.kind=2∧bareP c=(c.bytes=[]∧c.keys.length+c.B2.length=0∧c.max=0∧c.at'=0))∨(c.kind=3∧bareP c=(c.bytes=[]∧c.items.length=0∧c.at'=0))∨(c.kind=4∧bareP c=(c.items.length+c.keys.length+c.B2.length=0))∨((c.kind≠1∧c.kind≠2∧c.kind≠3∧c.kind≠4)∧bareP c=False):=by
  by_cases h1:c.kind=1
  ·exact .inl ⟨h1,by simp [bareP,h1]⟩
  by_cases h2:c.kind=2
  ·exact .inr (.inl ⟨h2,by simp [bareP,h2]⟩)
  by_cases h3:c.kind=3
  ·exact .inr (.inr (.inl ⟨h3,by simp [bareP,h3]⟩))
  by_cases h4:c.kind=4
  ·exact .inr (.inr (.inr (.inl ⟨h4,by simp [bareP,h4]⟩)))
  ·exact .inr (.inr (.inr (.inr ⟨⟨h1,h2,h3,h4⟩,by simp [bareP,h1,h2,h3,h4]⟩)))
 rcases q with ⟨hk,e⟩ | ⟨hk,e⟩ | ⟨hk,e⟩ | ⟨hk,e⟩ | ⟨hk,e⟩
 all_goals rw [e]
 repeat' ((conv=>whnf);first | (with_reducible refine sC (by kernel_rfl) ?_) | ((first | (with_reducible first | refine sB ?_ | refine z7 ?_ | refine z8 ?_) | refine sP (by rfl) ?_);first | refine Or.inl ⟨by first | assumption | (simp only [nm,List.length_map,w1,w2];first | done | assumption | omega),?_⟩ | refine Or.inr (Or.inl ⟨by first | assumption | (simp only [nm,List.length_map,w1,w2];first | done | assumption | omega),?_⟩) | (refine Or.inr (Or.inr ⟨fun hsp=>?_,fun hsp=>?_⟩) <;>(try simp only [nm,List.length_map,w1,w2] at hsp) <;>try subst hsp)) | fail)
 all_goals (conv=>whnf)
 all_goals (first | (with_reducible refine A9 ?_) | (with_reducible refine z9 ?_) | (refine A8 ?_;try simp (disch:=omega) only [nm,wrap_small,List.length_map,w1,w2,w3])) <;>(first | omega | (refine ⟨?_,?_,?_⟩ <;>first | assumption | omega) | (refine ⟨?_,?_,?_,?_⟩ <;>first | assumption | omega) | (rintro ⟨h1,h2,h3⟩;first | contradiction | omega) | (rintro ⟨h1,h2,h3,h4⟩;first | contradiction | omega) | (constructor <;>intro hq <;>first | omega | (refine ⟨?_,?_,?_⟩ <;>first | assumption | omega) | (refine ⟨?_,?_,?_,?_⟩ <;>first | assumption | omega)) | grind)
set_option maxHeartbeats 1000000 in
theorem ok_heap_store_limited (C:Laid P) (h:List Cl) (c:Cl):l3 P G n_heap_store_limited [.agg [.sl 7 (List.map j8 h)],aC c] [] (.bool (tt (limP c))):=by
 refine k8 C (k_heap_store_limited C) rfl ?_
 repeat' ((conv=>whnf);first | (with_reducible refine sC (by kernel_rfl) ?_) | ((first | (with_reducible first | refine sB ?_ | refine z7 ?_ | refine z8 ?_) | refine sP (by rfl) ?_);first | refine oT ?_ | refine oF ?_ | (refine Or.inr (Or.inr ⟨fun hsp=>?_,fun hsp=>?_⟩) <;>(try simp only [nm,List.length_map] at hsp) <;>try subst hsp)) | fail)
 all_goals (conv=>whnf)
 all_goals (first | (with_reducible refine A9 ?_) | (with_reducible refine z9 ?_) | (refine A8 ?_;try simp (disch:=omega) only [nm,wrap_small,List.length_map])) <;>(grind [limP])
set_option maxHeartbeats 1000000 in
theorem ok_heap_Total (C:Laid P) (h:List Cl) (hl:h.length<2 ^ 62):l3 P G a2R [.sl 7 (List.map j8 h)] [] (pI (F8 0 h)):=by
 refine k8 C (b4v C) rfl ?_
 repeat' ((conv=>whnf);first | (with_reducible refine sC (by kernel_rfl) ?_) | ((first | (with_reducible first | refine sB ?_ | refine z7 ?_ | refine z8 ?_) | refine sP (by rfl) ?_);first | refine oT ?_ | refine oF ?_ | (refine Or.inr (Or.inr ⟨fun hsp=>?_,fun hsp=>?_⟩) <;>(try simp only [nm] at hsp) <;>try subst hsp)) | fail)
 all_goals (conv=>whnf)
 intro X hX hW
 refine a3T hX (fun st (a:Nat × Int)=>st.upd [(3,.pv (pI a.2)),(8,.pv (pI (a.1:Int)))] []) (fun a m=>a.1+m=h.length∧(F8 0 h=F8 a.2 (h.drop a.1))) (0,0) h.length (by (conv=>whnf);first | done | rfl) (by simp) ?_
 intro m a ih hI
 rcases a3I h a.1 with ⟨x,hlt,hx⟩ | hge
 ·have hrow:=K4 (f:=j8) hx
  have hd:=a5r hx
  have hI2:=hI.2
  rw [hd] at hI2
  simp only [F8] at hI2
  repeat' ((conv=>whnf);first | (with_reducible refine sC (by kernel_rfl) ?_) | ((first | (with_reducible first | refine sB ?_ | refine z7 ?_ | refine z8 ?_) | refine sP (by rfl) ?_);first | refine oT ?_ | refine oF ?_ | (refine Or.inr (Or.inr ⟨fun hsp=>?_,fun hsp=>?_⟩) <;>(try simp only [nm,List.length_map] at hsp) <;>try subst hsp)) | refine ⟨_,_,ok_heap_Size_f C x.kind x.bytes x.items x.keys x.B2 x.max x.at',?_⟩ | refine sS (e7 (by rfl) (by rfl) (by omega) hrow) ?_ | fail)
  all_goals (conv=>whnf)
  all_goals first
   | (refine ih (m - 1) (a.1+1,(IntKind.i64.wrap (a.2+x.size))) _ (by omega) ⟨by (try dsimp only);omega,?_⟩ (by (conv=>whnf);first | done | rfl | (simp (disch:=omega) only [P9])))
   | (with_reducible first | refine l0 ?_ | refine A9 ?_ | refine z9 ?_)
   | (refine A8 ?_;simp only [nm])
   | refine le_of_eq ?_
  all_goals grind
 ·have hd:h.drop a.1=[]:=List.drop_eq_nil_of_le hge
  have hI2:=hI.2
  rw [hd] at hI2
  simp only [F8] at hI2
  repeat' ((conv=>whnf);first | (with_reducible refine sC (by kernel_rfl) ?_) | ((first | (with_reducible first | refine sB ?_ | refine z7 ?_ | refine z8 ?_) | refine sP (by rfl) ?_);first | refine oT ?_ | refine oF ?_ | (refine Or.inr (Or.inr ⟨fun hsp=>?_,fun hsp=>?_⟩) <;>(try simp only [nm,List.length_map] at hsp) <;>try subst hsp)) | refine ⟨_,_,ok_heap_Size_f C x.kind x.bytes x.items x.keys x.B2 x.max x.at',?_⟩ | fail)
  all_goals (conv=>whnf)
  all_goals first
   | (with_reducible first | refine l0 ?_ | refine A9 ?_ | refine z9 ?_)
   | (refine A8 ?_;simp only [nm])
   | refine le_of_eq ?_
  all_goals grind
end Go.Ab.Td
namespace Go.Ab.Td
set_option maxRecDepth 100000
set_option maxRecDepth 100000
open Go Go.Ab
variable {P:Program}
set_option linter.unusedSimpArgs false
attribute [local irreducible] e9
def okCell (h:List Cl) (c:Cl):Prop:=bareP c∧limP c∧keyedP h c
theorem chk_bad {h:List Cl} (ht:¬ F8 0 h>20000) {c:Cl} (hc:c ∈ h) (hb:¬ okCell h c):chkE h=210:=by
 unfold chkE
 rw [if_neg ht,if_neg (fun hp=>hb (hp c hc))]
set_option maxHeartbeats 4000000 in
theorem ok_heap_Check (C:Laid P) (h:List Cl) (hs:small h) (hn:∀ c ∈ h,∀ l ∈ c0F c,∀ o ∈ l,o.n<9223372036854775808):l3 P G n_heap_Check [.sl 7 (List.map j8 h)] [] (pI (chkE h)):=by
 refine k8 C (k_heap_Check C) rfl ?_
 have hl:h.length<2 ^ 62:=by have:=hs.1;omega
 by_cases ht:F8 0 h>20000
 ·have e:chkE h=210:=by unfold chkE;rw [if_pos ht]
  rw [e]
  repeat' ((conv=>whnf);first | (with_reducible refine sC (by kernel_rfl) ?_) | ((first | (with_reducible first | refine sB ?_ | refine z7 ?_ | refine z8 ?_) | refine sP (by rfl) ?_);first | refine oT ?_ | refine oF ?_ | (refine Or.inr (Or.inr ⟨fun hsp=>?_,fun hsp=>?_⟩) <;>(try simp only [nm,List.length_map] at hsp) <;>try subst hsp)) | refine ⟨_,_,ok_heap_Total C h hl,?_⟩ | fail)
  all_goals (conv=>whnf)
  all_goals exact PV.le.refl _
 ·repeat' ((conv=>whnf);first | (with_reducible refine sC (by kernel_rfl) ?_) | ((first | (with_reducible first | refine sB ?_ | refine z7 ?_ | refine z8 ?_) | refine sP (by rfl) ?_);first | refine oT ?_ | refine oF ?_ | (refine Or.inr (Or.inr ⟨fun hsp=>?_,fun hsp=>?_⟩) <;>(try simp only [nm,List.length_map] at hsp) <;>try subst hsp)) | refine ⟨_,_,ok_heap_Total C h hl,?_⟩ | fail)
  all_goals (conv=>whnf)
  intro X hX hW
  refine a3T hX (fun st (i:Nat)=>st.upd [(16,.pv (pI (i:Int)))] []) (fun i k=>i+k=h.length∧∀ j,j<i→∀ c,h[j]?=some c→okCell h c) 0 h.length (by (conv=>whnf);first | done | rfl) ⟨by simp,by intro j hj;omega⟩ ?_
  intro m i ih hI
  rcases a3I h i with ⟨x,hlt,hx⟩ | hge
  ·have hrow:=K4 (f:=j8) hx
   have hm:=List.mem_of_getElem? hx
   have kB:=ok_heap_store_bare C h x (hs.2 x hm)
   have kL:=ok_heap_store_limited C h x
   have kK:=ok_heap_store_keyed C h x (hs.2 x hm) (hn x hm)
   by_cases hb:bareP x
   ·rw [show tt (bareP x)=true from b1B.mpr hb] at kB
    by_cases hli:limP x
    ·rw [show tt (limP x)=true from b1B.mpr hli] at kL
     by_cases hk:keyedP h x
     ·rw [show tt (keyedP h x)=true from b1B.mpr hk] at kK
      repeat' ((conv=>whnf);first | (with_reducible refine sC (by kernel_rfl) ?_) | ((first | (with_reducible first | refine sB ?_ | refine z7 ?_ | refine z8 ?_) | refine sP (by rfl) ?_);first | refine oT ?_ | refine oF ?_ | (refine Or.inr (Or.inr ⟨fun hsp=>?_,fun hsp=>?_⟩) <;>(try simp only [nm,List.length_map] at hsp) <;>try subst hsp)) | refine ⟨_,_,kB,?_⟩ | refine ⟨_,_,kL,?_⟩ | refine ⟨_,_,kK,?_⟩ | (intro Y hY hWY) | refine hY _ ?_ | refine sS (e7 (by rfl) (by rfl) (by omega) hrow) ?_ | fail)
      all_goals (conv=>whnf)
      all_goals (refine ih (m - 1) (i+1) _ (by omega) ⟨by (try dsimp only);omega,?_⟩ (by (conv=>whnf);first | done | rfl | (simp (disch:=omega) only [P9])))
      all_goals (intro j hj c hc;by_cases e:j<i;(·exact hI.2 j e c hc);have e2:j=i:=(by omega);subst e2;rw [hx] at hc;cases hc;exact ⟨hb,hli,hk⟩)
     ·rw [show tt (keyedP h x)=false from b2I.mpr hk] at kK
      rw [chk_bad ht hm (fun hp=>hk hp.2.2)]
      repeat' ((conv=>whnf);first | (with_reducible refine sC (by kernel_rfl) ?_) | ((first | (with_reducible first | refine sB ?_ | refine z7 ?_ | refine z8 ?_) | refine sP (by rfl) ?_);first | refine oT ?_ | refine oF ?_ | (refine Or.inr (Or.inr ⟨fun hsp=>?_,fun hsp=>?_⟩) <;>(try simp only [nm,List.length_map] at hsp) <;>try subst hsp)) | refine ⟨_,_,kB,?_⟩ | refine ⟨_,_,kL,?_⟩ | refine ⟨_,_,kK,?_⟩ | (intro Y hY hWY) | refine hY _ ?_ | refine sS (e7 (by rfl) (by rfl) (by omega) hrow) ?_ | fail)
      all_goals (conv=>whnf)
      all_goals exact PV.le.refl _
    ·rw [show tt (limP x)=false from b2I.mpr hli] at kL
     rw [chk_bad ht hm (fun hp=>hli hp.2.1)]
     repeat' ((conv=>whnf);first | (with_reducible refine sC (by kernel_rfl) ?_) | ((first | (with_reducible first | refine sB ?_ | refine z7 ?_ | refine z8 ?_) | refine sP (by rfl) ?_);first | refine oT ?_ | refine oF ?_ | (refine Or.inr (Or.inr ⟨fun hsp=>?_,fun hsp=>?_⟩) <;>(try simp only [nm,List.length_map] at hsp) <;>try subst hsp)) | refine ⟨_,_,kB,?_⟩ | refine ⟨_,_,kL,?_⟩ | refine ⟨_,_,kK,?_⟩ | (intro Y hY hWY) | refine hY _ ?_ | refine sS (e7 (by rfl) (by rfl) (by omega) hrow) ?_ | fail)
     all_goals (conv=>whnf)
     all_goals exact PV.le.refl _
   ·rw [show tt (bareP x)=false from b2I.mpr hb] at kB
    rw [chk_bad ht hm (fun hp=>hb hp.1)]
    repeat' ((conv=>whnf);first | (with_reducible refine sC (by kernel_rfl) ?_) | ((first | (with_reducible first | refine sB ?_ | refine z7 ?_ | refine z8 ?_) | refine sP (by rfl) ?_);first | refine oT ?_ | refine oF ?_ | (refine Or.inr (Or.inr ⟨fun hsp=>?_,fun hsp=>?_⟩) <;>(try simp only [nm,List.length_map] at hsp) <;>try subst hsp)) | refine ⟨_,_,kB,?_⟩ | refine ⟨_,_,kL,?_⟩ | refine ⟨_,_,kK,?_⟩ | (intro Y hY hWY) | refine hY _ ?_ | refine sS (e7 (by rfl) (by rfl) (by omega) hrow) ?_ | fail)
    all_goals (conv=>whnf)
    all_goals exact PV.le.refl _
  ·have e:chkE h=0:=by
    unfold chkE
    rw [if_neg ht,if_pos]
    intro c hc
    obtain ⟨q,hq⟩:=List.getElem?_of_mem hc
    exact hI.2 q (by have:=(List.getElem?_eq_some_iff.1 hq).1;omega) c hq
   rw [e]
   repeat' ((conv=>whnf);first | (with_reducible refine sC (by kernel_rfl) ?_) | ((first | (with_reducible first | refine sB ?_ | refine z7 ?_ | refine z8 ?_) | refine sP (by rfl) ?_);first | refine oT ?_ | refine oF ?_ | (refine Or.inr (Or.inr ⟨fun hsp=>?_,fun hsp=>?_⟩) <;>(try simp only [nm,List.length_map] at hsp) <;>try subst hsp)) | fail)
   all_goals (conv=>whnf)
   all_goals exact PV.le.refl _
end Go.Ab.Td
namespace Go.Ab.Td
set_option maxRecDepth 100000
open Go Go.Ab
variable {P:Program}
set_option linter.unusedSimpArgs false
attribute [local irreducible] e9
end Go.Ab.Td
namespace Go.Ab.Td
set_option maxRecDepth 100000
open Go Go.Ab
variable {P:Program}
set_option linter.unusedSimpArgs false
attribute [local irreducible] e9
end Go.Ab.Td
namespace Go.Ab.Td
set_option maxRecDepth 100000
set_option maxRecDepth 100000
open Go Go.Ab
variable {P:Program}
set_option linter.unusedSimpArgs false
attribute [local irreducible] e9
theorem pub_all {α:Type} {f:α→List PV} {l:List α} {n:Nat} (h:l.length=n):List.take n (List.drop 0 (List.map f l))=List.map f l:=by
 subst h
 rw [List.drop_zero,List.take_of_length_le (by simp)]
end Go.Ab.Td
namespace Go.Ab.Td
set_option maxRecDepth 100000
open Go Go.Ab
variable {P:Program}
set_option linter.unusedSimpArgs false
attribute [local irreducible] e9
end Go.Ab.Td
namespace Go.Ab.Td
set_option maxRecDepth 100000
open Go Go.Ab
variable {P:Program}
set_option linter.unusedSimpArgs false
attribute [local irreducible] e9
end Go.Ab.Td
namespace Go.Ab.Td
set_option maxRecDepth 100000
open Go Go.Ab
variable {P:Program}
set_option linter.unusedSimpArgs false
attribute [local irreducible] e9
end Go.Ab.Td
namespace Go.Ab.Td
set_option maxRecDepth 100000
open Go Go.Ab
variable {P:Program}
set_option linter.unusedSimpArgs false
attribute [local irreducible] e9
end Go.Ab.Td
namespace Go.Ab.Td
set_option maxRecDepth 100000
open Go Go.Ab
variable {P:Program}
set_option linter.unusedSimpArgs false
attribute [local irreducible] e9
end Go.Ab.Td
namespace Go.Ab.Td
set_option maxRecDepth 100000
open Go Go.Ab
variable {P:Program}
set_option linter.unusedSimpArgs false
attribute [local irreducible] e9
noncomputable def oct (h:List Cl) (o:Ob):Option (List UInt8):=if o.kind=5 then some o.name else if o.kind=6 then some (sub h o) else none
end Go.Ab.Td
namespace Go.Ab.Td
set_option maxRecDepth 100000
open Go Go.Ab
variable {P:Program}
set_option linter.unusedSimpArgs false
attribute [local irreducible] e9
end Go.Ab.Td
namespace Go.Ab.Td
set_option maxRecDepth 100000
open Go Go.Ab
variable {P:Program}
set_option linter.unusedSimpArgs false
attribute [local irreducible] e9
def c7H (l:List Ob) (i:Nat) (k:Ob):Prop:=k.kind≠0∧k.kind≠6∧k.key=k∧(i:Int)≤i3 k 0 l
def b7K (l:List Ob):Prop:=∀ (i:Nat) (k:Ob),l[i]?=some k→c7H l i k
end Go.Ab.Td

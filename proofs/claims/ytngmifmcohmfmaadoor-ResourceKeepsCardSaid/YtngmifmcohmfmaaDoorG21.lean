/- A part of the proof: the texts TdKg. Under: nothing. -/
import Derived.Test.YtngmifmcohmfmaaDoorG20
set_option linter.unusedVariables false
namespace Go.Ab.Td
set_option maxRecDepth 100000
set_option maxRecDepth 100000
open Go Go.Ab
variable {P:Program}
set_option linter.unusedSimpArgs false
attribute [local irreducible] j6
open Classical in
def Z8 (c:Cl):Prop:=
 (c.kind=1∧(c.items.length+c.keys.length+c.v3.length=0∧c.max=0∧c.at'=0))∨(c.kind=2∧(c.bytes=[]∧c.keys.length+c.v3.length=0∧c.max=0∧c.at'=0))∨
 (c.kind=3∧(c.bytes=[]∧c.items.length=0∧c.at'=0))∨(c.kind=4∧c.items.length+c.keys.length+c.v3.length=0)
def b1P (c:Cl):Prop:=
 if c.kind=1 then c.bytes.length≤1000 else if c.kind=2 then c.items.length≤1000
 else if c.kind=3 then 0≤c.max∧c.max≤200∧c.keys.length=c.v3.length∧(c.keys.length:Int)≤c.max
 else c.bytes.length≤4000∧0≤c.at'∧c.at'≤c.bytes.length∧(c.max=0∨c.max=1)
open Classical in
noncomputable def b1G (h:List Cl):Int:=if F3 0 h>20000 then 210 else if ∀ c ∈ h,Z8 c∧b1P c∧a5d h c then 0 else 210
set_option maxHeartbeats 1000000 in
theorem a7v (C:Laid P) (h:List Cl) (c:Cl) (hs:c.small):l9 P G I9 [.agg [.sl 7 (List.map m9 h)],aC c] [] (.bool (tt (Z8 c))):=by
 refine l7 C (a3c C) rfl ?_
 obtain ⟨s1,s2,s3,s4⟩:=hs
 have w1:IntKind.i64.wrap ((c.keys.length:Int)+c.v3.length)=(c.keys.length:Int)+c.v3.length:=wrap_small (by omega) (by omega)
 have w2:IntKind.i64.wrap ((c.items.length:Int)+((c.keys.length:Int)+c.v3.length))=(c.items.length:Int)+((c.keys.length:Int)+c.v3.length):=wrap_small (by omega) (by omega)
 have w3:IntKind.i64.wrap (c.items.length:Int)=(c.items.length:Int):=wrap_small (by omega) (by omega)
 have q:(c.kind=1∧Z8 c=(c.items.length+c.keys.length+c.v3.length=0∧c.max=0∧c.at'=0))∨(c.kind=2∧Z8 c=(c.bytes=[]∧c.keys.length+c.v3.length=0∧c.max=0∧c.at'=0))∨(c.kind=3∧Z8 c=(c.bytes=[]∧c.items.length=0∧c.at'=0))∨(c.kind=4∧Z8 c=(c.items.length+c.keys.length+c.v3.length=0))∨((c.kind≠1∧c.kind≠2∧c.kind≠3∧c.kind≠4)∧Z8 c=False):=by
  by_cases h1:c.kind=1
  ·exact .inl ⟨h1,by simp [Z8,h1]⟩
  by_cases h2:c.kind=2
  ·exact .inr (.inl ⟨h2,by simp [Z8,h2]⟩)
  by_cases h3:c.kind=3
  ·exact .inr (.inr (.inl ⟨h3,by simp [Z8,h3]⟩))
  by_cases h4:c.kind=4
  ·exact .inr (.inr (.inr (.inl ⟨h4,by simp [Z8,h4]⟩)))
  ·exact .inr (.inr (.inr (.inr ⟨⟨h1,h2,h3,h4⟩,by simp [Z8,h1,h2,h3,h4]⟩)))
 rcases q with ⟨hk,e⟩ | ⟨hk,e⟩ | ⟨hk,e⟩ | ⟨hk,e⟩ | ⟨hk,e⟩
 all_goals rw [e]
 repeat' ((conv=>whnf);first | (with_reducible refine sC (by kernel_rfl) ?_) | ((first | (with_reducible first | refine sB ?_ | refine A2 ?_ | refine A3 ?_) | refine sP (by rfl) ?_);first | refine Or.inl ⟨by first | assumption | (simp only [nm,List.length_map,w1,w2];first | done | assumption | omega),?_⟩ | refine Or.inr (Or.inl ⟨by first | assumption | (simp only [nm,List.length_map,w1,w2];first | done | assumption | omega),?_⟩) | (refine Or.inr (Or.inr ⟨fun hsp=>?_,fun hsp=>?_⟩) <;>(try simp only [nm,List.length_map,w1,w2] at hsp) <;>try subst hsp)) | fail)
 all_goals (conv=>whnf)
 all_goals (first | (with_reducible refine L9 ?_) | (with_reducible refine J2 ?_) | (refine N7 ?_;try simp (disch:=omega) only [nm,wrap_small,List.length_map,w1,w2,w3])) <;>(first | omega | (refine ⟨?_,?_,?_⟩ <;>first | assumption | omega) | (refine ⟨?_,?_,?_,?_⟩ <;>first | assumption | omega) | (rintro ⟨h1,h2,h3⟩;first | contradiction | omega) | (rintro ⟨h1,h2,h3,h4⟩;first | contradiction | omega) | (constructor <;>intro hq <;>first | omega | (refine ⟨?_,?_,?_⟩ <;>first | assumption | omega) | (refine ⟨?_,?_,?_,?_⟩ <;>first | assumption | omega)) | grind)
set_option maxHeartbeats 1000000 in
theorem a5B (C:Laid P) (h:List Cl) (c:Cl):l9 P G D3 [.agg [.sl 7 (List.map m9 h)],aC c] [] (.bool (tt (b1P c))):=by
 refine l7 C (a1B C) rfl ?_
 repeat' ((conv=>whnf);first | (with_reducible refine sC (by kernel_rfl) ?_) | ((first | (with_reducible first | refine sB ?_ | refine A2 ?_ | refine A3 ?_) | refine sP (by rfl) ?_);first | refine oT ?_ | refine oF ?_ | (refine Or.inr (Or.inr ⟨fun hsp=>?_,fun hsp=>?_⟩) <;>(try simp only [nm,List.length_map] at hsp) <;>try subst hsp)) | fail)
 all_goals (conv=>whnf)
 all_goals (first | (with_reducible refine L9 ?_) | (with_reducible refine J2 ?_) | (refine N7 ?_;try simp (disch:=omega) only [nm,wrap_small,List.length_map])) <;>(grind [b1P])
set_option maxHeartbeats 1000000 in
theorem a6Z (C:Laid P) (h:List Cl) (hl:h.length<2 ^ 62):l9 P G N3 [.sl 7 (List.map m9 h)] [] (pI (F3 0 h)):=by
 refine l7 C (a8h C) rfl ?_
 repeat' ((conv=>whnf);first | (with_reducible refine sC (by kernel_rfl) ?_) | ((first | (with_reducible first | refine sB ?_ | refine A2 ?_ | refine A3 ?_) | refine sP (by rfl) ?_);first | refine oT ?_ | refine oF ?_ | (refine Or.inr (Or.inr ⟨fun hsp=>?_,fun hsp=>?_⟩) <;>(try simp only [nm] at hsp) <;>try subst hsp)) | fail)
 all_goals (conv=>whnf)
 intro X hX hW
 refine a6V hX (fun st (a:Nat × Int)=>st.upd [(3,.pv (pI a.2)),(8,.pv (pI (a.1:Int)))] []) (fun a m=>a.1+m=h.length∧(F3 0 h=F3 a.2 (h.drop a.1))) (0,0) h.length (by (conv=>whnf);first | done | rfl) (by simp) ?_
 intro m a ih hI
 rcases a5u h a.1 with ⟨x,hlt,hx⟩ | hge
 ·have hrow:=T4 (f:=m9) hx
  have hd:=a4N hx
  have hI2:=hI.2
  rw [hd] at hI2
  simp only [F3] at hI2
  repeat' ((conv=>whnf);first | (with_reducible refine sC (by kernel_rfl) ?_) | ((first | (with_reducible first | refine sB ?_ | refine A2 ?_ | refine A3 ?_) | refine sP (by rfl) ?_);first | refine oT ?_ | refine oF ?_ | (refine Or.inr (Or.inr ⟨fun hsp=>?_,fun hsp=>?_⟩) <;>(try simp only [nm,List.length_map] at hsp) <;>try subst hsp)) | refine ⟨_,_,a6d C x.kind x.bytes x.items x.keys x.v3 x.max x.at',?_⟩ | refine sS (i4 (by rfl) (by rfl) (by omega) hrow) ?_ | fail)
  all_goals (conv=>whnf)
  all_goals first
   | (refine ih (m - 1) (a.1+1,(IntKind.i64.wrap (a.2+x.size))) _ (by omega) ⟨by (try dsimp only);omega,?_⟩ (by (conv=>whnf);first | done | rfl | (simp (disch:=omega) only [H8])))
   | (with_reducible first | refine z9 ?_ | refine L9 ?_ | refine J2 ?_)
   | (refine N7 ?_;simp only [nm])
   | refine le_of_eq ?_
  all_goals grind
 ·have hd:h.drop a.1=[]:=List.drop_eq_nil_of_le hge
  have hI2:=hI.2
  rw [hd] at hI2
  simp only [F3] at hI2
  repeat' ((conv=>whnf);first | (with_reducible refine sC (by kernel_rfl) ?_) | ((first | (with_reducible first | refine sB ?_ | refine A2 ?_ | refine A3 ?_) | refine sP (by rfl) ?_);first | refine oT ?_ | refine oF ?_ | (refine Or.inr (Or.inr ⟨fun hsp=>?_,fun hsp=>?_⟩) <;>(try simp only [nm,List.length_map] at hsp) <;>try subst hsp)) | refine ⟨_,_,a6d C x.kind x.bytes x.items x.keys x.v3 x.max x.at',?_⟩ | fail)
  all_goals (conv=>whnf)
  all_goals first
   | (with_reducible first | refine z9 ?_ | refine L9 ?_ | refine J2 ?_)
   | (refine N7 ?_;simp only [nm])
   | refine le_of_eq ?_
  all_goals grind
end Go.Ab.Td

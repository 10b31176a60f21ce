/- A part of the proof: the texts TdZo. Under: nothing. -/
import Derived.Test.YtomfaadmmchdcaaGreatDoorG35
import Derived.Test.YtomfaadmmchdcaaGreatDoorG34
set_option linter.unusedVariables false
namespace Go.Ab.Td
set_option maxRecDepth 100000
set_option maxRecDepth 100000
open Go Go.Ab
variable {P:Program}
set_option linter.unusedSimpArgs false
attribute [local irreducible] e9
set_option linter.unusedVariables false
set_option maxHeartbeats 16000000 in
theorem a7q (C:Laid P) (cells ops d5:List (List PV)) (hc:∀ r ∈ cells,a1W r) (ho:∀ r ∈ ops,a1W r) (hd:∀ r ∈ d5,∃ D,r=[.int .u8 D]∧0≤D∧D<256) (w0 w1:Wd):l3 P G a0j [.agg [.sl 5 cells,.sl 5 ops,.sl 1 d5],.agg (w0.row++w1.row)] [] (.bool true):=by
 refine k8 C (a8b C) rfl ?_
 obtain ⟨s,⟨ds, -,hd6⟩,kst⟩:=c0r C cells ops d5 hc ho hd
 have hs:=ds.dh.sm (by decide)
 clear hc ho hd
 obtain ⟨fK,nK⟩:=b8f ds.dh (by decide) w0
 obtain ⟨fV,nV⟩:=b8f ds.dh (by decide) w1
 obtain ⟨K0,A0,B0,N0,S0,hA0,hB0,hN0⟩:=w0
 obtain ⟨K1,A1,B1,N1,S1,hA1,hB1,hN1⟩:=w1
 have kO0:=I1 C s.heap hs K0 A0 B0 N0 S0 hA0 hB0 hN0
 have kO1:=I1 C s.heap hs K1 A1 B1 N1 S1 hA1 hB1 hN1
 dsimp only at fK nK fV nV
 generalize a6H s.heap K0 A0 B0 N0=key at kO0 fK nK
 generalize a6H s.heap K1 A1 B1 N1=val at kO1 fV nV
 have d1:=ds.one fK nK
 have d2:=ds.two fK nK fV nV
 by_cases he:(n4 s.heap key).2≠0
 ·have kW:=a6M C s _ _ _ _ (b4G C d1 (by decide) [] key rfl he)
  have kS:=a6M C s _ _ _ _ (b4E C d2 (by decide) [] key val rfl he)
  obtain ⟨S1,hS1⟩:∃ S1:B8,S1={s with ops:=[key]}:=⟨_,rfl⟩
  obtain ⟨S2,hS2⟩:∃ S2:B8,S2={s with ops:=[key,val]}:=⟨_,rfl⟩
  have kW:l3 P G u0 [aS s,.str [119,104,101,114,101],.sl 7 (List.map i4 [key])] [] (.o0 [aS S1,pI (n4 s.heap key).2]):=by rw [hS1];exact kW
  have kS:l3 P G u0 [aS s,.str [115,116,111,114,101],.sl 7 (List.map i4 [key,val])] [] (.o0 [aS S2,pI (n4 s.heap key).2]):=by rw [hS2];exact kS
  clear hS1 hS2
  repeat' ((conv=>whnf);first | (with_reducible refine sC (by kernel_rfl) ?_) | ((first | (with_reducible first | refine sB ?_ | refine z7 ?_ | refine z8 ?_) | refine sP (by rfl) ?_);first | refine oT ?_ | refine oF ?_ | (refine Or.inr (Or.inr ⟨fun hsp=>?_,fun hsp=>?_⟩) <;>(try simp only [nm,List.length_map] at hsp) <;>try subst hsp)) | refine ⟨_,_,TdW16.ok C,?_⟩ | refine ⟨_,_,kst,?_⟩ | refine ⟨_,_,kO0,?_⟩ | refine ⟨_,_,kO1,?_⟩ | refine ⟨_,_,kW,?_⟩ | refine ⟨_,_,kS,?_⟩ | fail)
  all_goals (conv=>whnf)
  all_goals (first | exact PV.le.refl _ | (refine le_of_eq ?_;simp) | (trace_state;sorry))
 have hk:(n4 s.heap key).2=0:=by omega
 clear he
 obtain ⟨g1,g2,g3⟩:=c4A ds.dh fK nK hk
 obtain ⟨dl,top,hdt,hdl, -⟩:=ds.top
 have htm:top ∈ s.d5:=by rw [hdt];simp
 rcases c2g s.heap (n4 s.heap key).1 s.d5 with ⟨i,d,v,ht⟩ | hno
 ·obtain ⟨c,hp⟩:=c0P (v':=val) ht.2.1
  have hdm:d ∈ s.d5:=List.mem_of_getElem? ht.1
  have kW:=a6M C s _ _ _ _ (b2o C d1 (by decide) [] key rfl hk i d v ht (by simp))
  obtain ⟨A,hA⟩:∃ A:B8,A=a8w {s with ops:=[key]} ([]++[d,b4Q 1]) s.heap:=⟨_,rfl⟩
  have kW:l3 P G u0 [aS s,.str [119,104,101,114,101],.sl 7 (List.map i4 [key])] [] (.o0 [aS A,pI 0]):=by rw [hA];exact kW
  have hAo:A.ops=[d,b4Q 1]:=by rw [hA];rfl
  have hr1:(List.map i4 A.ops)[(0:Int).toNat]?=some (i4 d):=by rw [hAo];rfl
  have kS:=a6M C s _ _ _ _ (b4F C d2 (by decide) [] key val rfl hk i d v ht c hp)
  clear hA
  obtain ⟨cg,cl⟩:=ds.dh.c5K (ds.df d hdm) (ds.dk d hdm) g1 g2 fV g3 nV hp
  have tp:=c3y ht cg cl
  obtain ⟨h2,hh2⟩:∃ h2,h2=s.heap.set d.ref.toNat c:=⟨_,rfl⟩
  rw [← hh2] at cg cl tp kS
  obtain ⟨T,hT⟩:∃ T:B8,T=a8w {s with ops:=[key,val]} [] h2:=⟨_,rfl⟩
  have dT:DS 20 T:=by rw [hT];exact ds.chg cg (by simp) (fun o ho=>by cases ho) (fun o ho=>by cases ho)
  have hTh:T.heap=h2:=by rw [hT]
  have hTd:T.d5=s.d5:=by rw [hT]
  have hTk:n4 T.heap key=n4 s.heap key:=by rw [hTh];exact cg.key key
  have fK2:fits T.heap key:=by rw [hTh];exact a3i cg.old fK
  have tp2:a8v T.heap T.d5 (n4 T.heap key).1 i d val:=by rw [hTk,hTh,hTd];exact tp
  have kS:l3 P G u0 [aS s,.str [115,116,111,114,101],.sl 7 (List.map i4 [key,val])] [] (.o0 [aS T,pI 0]):=by rw [hT];exact kS
  have kL:=a6M C T _ _ _ _ (b7U C (dT.one fK2 nK) (by decide) [] key rfl (by rw [hTk];exact hk) _ _ _ tp2)
  have kW2:=a6M C T _ _ _ _ (b2o C (dT.one fK2 nK) (by decide) [] key rfl (by rw [hTk];exact hk) _ _ _ tp2 (by simp))
  obtain ⟨B,hB⟩:∃ B:B8,B=a8w {T with ops:=[key]} ([]++[val]) T.heap:=⟨_,rfl⟩
  obtain ⟨W,hW⟩:∃ W:B8,W=a8w {T with ops:=[key]} ([]++[d,b4Q 1]) T.heap:=⟨_,rfl⟩
  have kL:l3 P G u0 [aS T,.str [108,111,97,100],.sl 7 (List.map i4 [key])] [] (.o0 [aS B,pI 0]):=by rw [hB];exact kL
  have kW2:l3 P G u0 [aS T,.str [119,104,101,114,101],.sl 7 (List.map i4 [key])] [] (.o0 [aS W,pI 0]):=by rw [hW];exact kW2
  have hBo:B.ops=[val]:=by rw [hB];rfl
  have hWo:W.ops=[d,b4Q 1]:=by rw [hW];rfl
  have kE:=a4A C [val] (by simp)
  have hr0:(List.map i4 W.ops)[(0:Int).toNat]?=some (i4 d):=by rw [hWo];rfl
  clear hT hB hW hh2
  repeat' ((conv=>whnf);first | (with_reducible refine sC (by kernel_rfl) ?_) | ((first | (with_reducible first | refine sB ?_ | refine z7 ?_ | refine z8 ?_) | refine sP (by rfl) ?_);first | refine Or.inl ⟨by first | assumption | (simp only [nm,List.length_map,hAo,hBo,hWo,List.length_cons,List.length_nil];first | done | assumption | omega),?_⟩ | refine Or.inr (Or.inl ⟨by first | assumption | (simp only [nm,List.length_map,hAo,hBo,hWo,List.length_cons,List.length_nil];first | done | assumption | omega),?_⟩) | (refine Or.inr (Or.inr ⟨fun hsp=>?_,fun hsp=>?_⟩) <;>(try simp only [nm,List.length_map,hAo,hBo,hWo,List.length_cons,List.length_nil] at hsp) <;>try subst hsp)) | refine ⟨_,_,TdW16.ok C,?_⟩ | refine ⟨_,_,kst,?_⟩ | refine ⟨_,_,kO0,?_⟩ | refine ⟨_,_,kO1,?_⟩ | refine ⟨_,_,kW,?_⟩ | refine ⟨_,_,kS,?_⟩ | refine ⟨_,_,kL,?_⟩ | refine ⟨_,_,kW2,?_⟩ | (rw [hBo];refine ⟨_,_,kE,?_⟩) | refine sS (e7 (by rfl) (by rfl) (by decide) hr0) ?_ | refine sS (e7 (by rfl) (by rfl) (by decide) hr1) ?_ | fail)
  all_goals (conv=>whnf)
  all_goals (first | exact PV.le.refl _ | (refine le_of_eq ?_;simp [hAo,hBo,hWo]) | (trace_state;sorry))
 ·have kW:=a6M C s _ _ _ _ (b5M C d1 (by decide) [] key rfl hk hno)
  obtain ⟨A,hA⟩:∃ A:B8,A=a8w {s with ops:=[key]} ([]++[b4Q 0]) s.heap:=⟨_,rfl⟩
  have kW:l3 P G u0 [aS s,.str [119,104,101,114,101],.sl 7 (List.map i4 [key])] [] (.o0 [aS A,pI 0]):=by rw [hA];exact kW
  have hAo:A.ops=[b4Q 0]:=by rw [hA];rfl
  have hdm:top ∈ s.d5:=htm
  clear hA
  cases hp:Y2 (cellAt s.heap top) (n4 s.heap key).1 val with
  | none=>
    have kS:=a6M C s _ _ _ _ (b0p C d2 (by decide) [] key val rfl hk hno dl top hdt hp)
    obtain ⟨S2,hS2⟩:∃ S2:B8,S2={s with ops:=[key,val]}:=⟨_,rfl⟩
    rw [← hS2] at kS
    have kE:=a4A C [b4Q 0] (by simp)
    clear hS2
    repeat' ((conv=>whnf);first | (with_reducible refine sC (by kernel_rfl) ?_) | ((first | (with_reducible first | refine sB ?_ | refine z7 ?_ | refine z8 ?_) | refine sP (by rfl) ?_);first | refine Or.inl ⟨by first | assumption | (simp only [nm,List.length_map,hAo,List.length_cons,List.length_nil];first | done | assumption | omega),?_⟩ | refine Or.inr (Or.inl ⟨by first | assumption | (simp only [nm,List.length_map,hAo,List.length_cons,List.length_nil];first | done | assumption | omega),?_⟩) | (refine Or.inr (Or.inr ⟨fun hsp=>?_,fun hsp=>?_⟩) <;>(try simp only [nm,List.length_map,hAo,List.length_cons,List.length_nil] at hsp) <;>try subst hsp)) | refine ⟨_,_,TdW16.ok C,?_⟩ | refine ⟨_,_,kst,?_⟩ | refine ⟨_,_,kO0,?_⟩ | refine ⟨_,_,kO1,?_⟩ | refine ⟨_,_,kW,?_⟩ | refine ⟨_,_,kS,?_⟩ | refine ⟨_,_,b2j C _,?_⟩ | (rw [hAo];refine ⟨_,_,kE,?_⟩) | fail)
    all_goals (conv=>whnf)
    all_goals (first | exact PV.le.refl _ | (trace_state;sorry))
  | some c=>
    have kS:=a6M C s _ _ _ _ (b5L C d2 (by decide) [] key val rfl hk hno dl top hdt c hp)
    have hr2:(List.map i4 s.d5)[((dl.length:Nat):Int).toNat]?=some (i4 top):=by rw [hdt];simp
    have hdll:s.d5.length=dl.length+1:=by rw [hdt];simp
    have hwT:IntKind.i64.wrap ((s.d5.length:Int) - 1)=(dl.length:Int):=by rw [wrap_small (by omega) (by omega)];omega
    obtain ⟨cg,cl⟩:=ds.dh.c5K (ds.df top hdm) (ds.dk top hdm) g1 g2 fV g3 nV hp
    have tp:=(by rw [hdt];exact c3x cg cl:a8v (s.heap.set top.ref.toNat c) s.d5 (n4 s.heap key).1 dl.length top val)
    obtain ⟨h2,hh2⟩:∃ h2,h2=s.heap.set top.ref.toNat c:=⟨_,rfl⟩
    rw [← hh2] at cg cl tp kS
    obtain ⟨T,hT⟩:∃ T:B8,T=a8w {s with ops:=[key,val]} [] h2:=⟨_,rfl⟩
    have dT:DS 20 T:=by rw [hT];exact ds.chg cg (by simp) (fun o ho=>by cases ho) (fun o ho=>by cases ho)
    have hTh:T.heap=h2:=by rw [hT]
    have hTd:T.d5=s.d5:=by rw [hT]
    have hTk:n4 T.heap key=n4 s.heap key:=by rw [hTh];exact cg.key key
    have fK2:fits T.heap key:=by rw [hTh];exact a3i cg.old fK
    have tp2:a8v T.heap T.d5 (n4 T.heap key).1 dl.length top val:=by rw [hTk,hTh,hTd];exact tp
    have kS:l3 P G u0 [aS s,.str [115,116,111,114,101],.sl 7 (List.map i4 [key,val])] [] (.o0 [aS T,pI 0]):=by rw [hT];exact kS
    have kL:=a6M C T _ _ _ _ (b7U C (dT.one fK2 nK) (by decide) [] key rfl (by rw [hTk];exact hk) _ _ _ tp2)
    have kW2:=a6M C T _ _ _ _ (b2o C (dT.one fK2 nK) (by decide) [] key rfl (by rw [hTk];exact hk) _ _ _ tp2 (by simp))
    obtain ⟨B,hB⟩:∃ B:B8,B=a8w {T with ops:=[key]} ([]++[val]) T.heap:=⟨_,rfl⟩
    obtain ⟨W,hW⟩:∃ W:B8,W=a8w {T with ops:=[key]} ([]++[top,b4Q 1]) T.heap:=⟨_,rfl⟩
    have kL:l3 P G u0 [aS T,.str [108,111,97,100],.sl 7 (List.map i4 [key])] [] (.o0 [aS B,pI 0]):=by rw [hB];exact kL
    have kW2:l3 P G u0 [aS T,.str [119,104,101,114,101],.sl 7 (List.map i4 [key])] [] (.o0 [aS W,pI 0]):=by rw [hW];exact kW2
    have hBo:B.ops=[val]:=by rw [hB];rfl
    have hWo:W.ops=[top,b4Q 1]:=by rw [hW];rfl
    have kE:=a4A C [val] (by simp)
    have hr0:(List.map i4 W.ops)[(0:Int).toNat]?=some (i4 top):=by rw [hWo];rfl
    clear hT hB hW hh2
    repeat' ((conv=>whnf);first | (with_reducible refine sC (by kernel_rfl) ?_) | ((first | (with_reducible first | refine sB ?_ | refine z7 ?_ | refine z8 ?_) | refine sP (by rfl) ?_);first | refine Or.inl ⟨by first | assumption | (simp only [nm,List.length_map,hAo,hBo,hWo,hdll,List.length_cons,List.length_nil];first | done | assumption | omega),?_⟩ | refine Or.inr (Or.inl ⟨by first | assumption | (simp only [nm,List.length_map,hAo,hBo,hWo,hdll,List.length_cons,List.length_nil];first | done | assumption | omega),?_⟩) | (refine Or.inr (Or.inr ⟨fun hsp=>?_,fun hsp=>?_⟩) <;>(try simp only [nm,List.length_map,hAo,hBo,hWo,hdll,List.length_cons,List.length_nil] at hsp) <;>try subst hsp)) | refine ⟨_,_,TdW16.ok C,?_⟩ | refine ⟨_,_,kst,?_⟩ | refine ⟨_,_,kO0,?_⟩ | refine ⟨_,_,kO1,?_⟩ | refine ⟨_,_,kW,?_⟩ | refine ⟨_,_,kS,?_⟩ | refine ⟨_,_,kL,?_⟩ | refine ⟨_,_,kW2,?_⟩ | (rw [hBo];refine ⟨_,_,kE,?_⟩) | refine sS (e7 (by rfl) (by rfl) (by decide) hr0) ?_ | refine sS (e7 (by rfl) (by rfl) (by simp only [List.length_map,hwT];omega) (by simp only [List.length_map,hwT];exact hr2)) ?_ | fail)
    all_goals (conv=>whnf)
    all_goals (first | exact PV.le.refl _ | (refine le_of_eq ?_;simp [hAo,hBo,hWo]) | (trace_state;sorry))
end Go.Ab.Td

/- A part of the proof: the texts TdZp3, TdZp4, TdZp5. Under: nothing. -/
import Derived.Test.YtomfaadmmchdcaaGreatDoorG36
import Derived.Test.YtomfaadmmchdcaaGreatDoorG24
import Derived.Test.YtomfaadmmchdcaaGreatDoorG37
set_option linter.unusedVariables false
namespace Go.Ab.Td
set_option maxRecDepth 100000
set_option maxRecDepth 100000
open Go Go.Ab
variable {P:Program}
set_option linter.unusedSimpArgs false
attribute [local irreducible] e9
set_option maxHeartbeats 8000000 in
theorem ok_Def3 (C:Laid P) (s:B8) (cells ops d5:List (List PV)) (kst:l3 P G y8 [.agg [.sl 5 cells,.sl 5 ops,.sl 1 d5]] [] (aS s)) (K0 A0 B0 N0:Int) (S0:List UInt8) (key:Ob) (kO0:l3 P G j1 [a1m K0 A0 B0 N0 S0,.sl 7 (List.map j8 s.heap)] [] (aO key)) (K1 A1 B1 N1:Int) (S1:List UInt8) (val:Ob) (kO1:l3 P G j1 [a1m K1 A1 B1 N1 S1,.sl 7 (List.map j8 s.heap)] [] (aO val)) (K2 A2 B2 N2:Int) (S2:List UInt8) (oth:Ob) (kO2:l3 P G j1 [a1m K2 A2 B2 N2 S2,.sl 7 (List.map j8 s.heap)] [] (aO oth)) (k m:Ob) (e f:Int) (kKk:l3 P G O0 [.sl 7 (List.map j8 s.heap),aO key] [] (.o0 [aO k,pI e])) (kKo:l3 P G O0 [.sl 7 (List.map j8 s.heap),aO oth] [] (.o0 [aO m,pI f])) (he:e=0) (dl:List Ob) (top:Ob) (hdt:s.d5=dl++[top]) (hdl:dl.length≤1000) (T A B W Y:B8) (kD:l3 P G u0 [aS s,.str [100,101,102],.sl 7 (List.map i4 [key,val])] [] (.o0 [aS T,pI 0])) (kL:l3 P G u0 [aS T,.str [108,111,97,100],.sl 7 (List.map i4 [key])] [] (.o0 [aS A,pI 0])) (kG:l3 P G u0 [aS T,.str [103,101,116],.sl 7 (List.map i4 [top,key])] [] (.o0 [aS B,pI 0])) (kW:l3 P G u0 [aS T,.str [119,104,101,114,101],.sl 7 (List.map i4 [key])] [] (.o0 [aS W,pI 0])) (kN:l3 P G u0 [aS T,.str [107,110,111,119,110],.sl 7 (List.map i4 [top,key])] [] (.o0 [aS Y,pI 0])) (hAo:A.ops=[val]) (hBo:B.ops=[val]) (hWo:W.ops=[top,b4Q 1]) (hYo:Y.ops=[b4Q 1]) (kC:l3 P G n_heap_Check [.sl 7 (List.map j8 T.heap)] [] (pI 0)) (hf:f≠0):l3 P G n_law16_DictDefines [.agg [.sl 5 cells,.sl 5 ops,.sl 1 d5],.agg ([.int .u8 K0,.int .u8 A0,.int .u8 B0,.int .i32 N0,.str S0]++([.int .u8 K1,.int .u8 A1,.int .u8 B1,.int .i32 N1,.str S1]++[.int .u8 K2,.int .u8 A2,.int .u8 B2,.int .i32 N2,.str S2]))] [] (.bool true):=by
 refine k8 C (k_law16_DictDefines C) rfl ?_
 have hr2:(List.map i4 s.d5)[((dl.length:Nat):Int).toNat]?=some (i4 top):=by rw [hdt];simp
 have hdll:s.d5.length=dl.length+1:=by rw [hdt];simp
 have hwT:IntKind.i64.wrap ((s.d5.length:Int) - 1)=(dl.length:Int):=by rw [wrap_small (by omega) (by omega)];omega
 have kE1:=a4A C [val] (by simp)
 have kE2:=a4A C [top,b4Q 1] (by simp)
 have kE3:=a4A C [b4Q 1] (by simp)
 repeat' ((conv=>whnf);first | (with_reducible refine sC (by kernel_rfl) ?_) | ((first | (with_reducible first | refine sB ?_ | refine z7 ?_ | refine z8 ?_) | refine sP (by rfl) ?_);first | refine Or.inl ⟨by first | assumption | (simp only [nm,List.length_map,hdll];first | done | assumption | omega),?_⟩ | refine Or.inr (Or.inl ⟨by first | assumption | (simp only [nm,List.length_map,hdll];first | done | assumption | omega),?_⟩) | (refine Or.inr (Or.inr ⟨fun hsp=>?_,fun hsp=>?_⟩) <;>(try simp only [nm,List.length_map,hdll] at hsp) <;>try subst hsp)) | refine ⟨_,_,TdW16.ok C,?_⟩ | refine ⟨_,_,kst,?_⟩ | refine ⟨_,_,kO0,?_⟩ | refine ⟨_,_,kO1,?_⟩ | refine ⟨_,_,kO2,?_⟩ | refine ⟨_,_,kKk,?_⟩ | refine ⟨_,_,kKo,?_⟩ | refine ⟨_,_,kD,?_⟩ | refine ⟨_,_,kL,?_⟩ | refine ⟨_,_,kG,?_⟩ | refine ⟨_,_,kW,?_⟩ | refine ⟨_,_,kN,?_⟩ | (rw [hAo];refine ⟨_,_,kE1,?_⟩) | (rw [hBo];refine ⟨_,_,kE1,?_⟩) | (rw [hWo];refine ⟨_,_,kE2,?_⟩) | (rw [hYo];refine ⟨_,_,kE3,?_⟩) | refine ⟨_,_,b2j C _,?_⟩ | refine ⟨_,_,kC,?_⟩ | refine sS (e7 (by rfl) (by rfl) (by simp only [List.length_map,hwT];omega) (by simp only [List.length_map,hwT];exact hr2)) ?_ | fail)
 all_goals (conv=>whnf)
 all_goals (first | exact PV.le.refl _ | (refine le_of_eq ?_;simp) | (trace_state;sorry))
end Go.Ab.Td
namespace Go.Ab.Td
set_option maxRecDepth 100000
set_option maxRecDepth 100000
open Go Go.Ab
variable {P:Program}
set_option linter.unusedSimpArgs false
attribute [local irreducible] e9
set_option maxHeartbeats 8000000 in
theorem ok_Def4 (C:Laid P) (s:B8) (cells ops d5:List (List PV)) (kst:l3 P G y8 [.agg [.sl 5 cells,.sl 5 ops,.sl 1 d5]] [] (aS s)) (K0 A0 B0 N0:Int) (S0:List UInt8) (key:Ob) (kO0:l3 P G j1 [a1m K0 A0 B0 N0 S0,.sl 7 (List.map j8 s.heap)] [] (aO key)) (K1 A1 B1 N1:Int) (S1:List UInt8) (val:Ob) (kO1:l3 P G j1 [a1m K1 A1 B1 N1 S1,.sl 7 (List.map j8 s.heap)] [] (aO val)) (K2 A2 B2 N2:Int) (S2:List UInt8) (oth:Ob) (kO2:l3 P G j1 [a1m K2 A2 B2 N2 S2,.sl 7 (List.map j8 s.heap)] [] (aO oth)) (k m:Ob) (e f:Int) (kKk:l3 P G O0 [.sl 7 (List.map j8 s.heap),aO key] [] (.o0 [aO k,pI e])) (kKo:l3 P G O0 [.sl 7 (List.map j8 s.heap),aO oth] [] (.o0 [aO m,pI f])) (he:e=0) (dl:List Ob) (top:Ob) (hdt:s.d5=dl++[top]) (hdl:dl.length≤1000) (T A B W Y:B8) (kD:l3 P G u0 [aS s,.str [100,101,102],.sl 7 (List.map i4 [key,val])] [] (.o0 [aS T,pI 0])) (kL:l3 P G u0 [aS T,.str [108,111,97,100],.sl 7 (List.map i4 [key])] [] (.o0 [aS A,pI 0])) (kG:l3 P G u0 [aS T,.str [103,101,116],.sl 7 (List.map i4 [top,key])] [] (.o0 [aS B,pI 0])) (kW:l3 P G u0 [aS T,.str [119,104,101,114,101],.sl 7 (List.map i4 [key])] [] (.o0 [aS W,pI 0])) (kN:l3 P G u0 [aS T,.str [107,110,111,119,110],.sl 7 (List.map i4 [top,key])] [] (.o0 [aS Y,pI 0])) (hAo:A.ops=[val]) (hBo:B.ops=[val]) (hWo:W.ops=[top,b4Q 1]) (hYo:Y.ops=[b4Q 1]) (kC:l3 P G n_heap_Check [.sl 7 (List.map j8 T.heap)] [] (pI 0)) (hf:f=0) (hmk:m=k):l3 P G n_law16_DictDefines [.agg [.sl 5 cells,.sl 5 ops,.sl 1 d5],.agg ([.int .u8 K0,.int .u8 A0,.int .u8 B0,.int .i32 N0,.str S0]++([.int .u8 K1,.int .u8 A1,.int .u8 B1,.int .i32 N1,.str S1]++[.int .u8 K2,.int .u8 A2,.int .u8 B2,.int .i32 N2,.str S2]))] [] (.bool true):=by
 refine k8 C (k_law16_DictDefines C) rfl ?_
 subst hmk
 have hr2:(List.map i4 s.d5)[((dl.length:Nat):Int).toNat]?=some (i4 top):=by rw [hdt];simp
 have hdll:s.d5.length=dl.length+1:=by rw [hdt];simp
 have hwT:IntKind.i64.wrap ((s.d5.length:Int) - 1)=(dl.length:Int):=by rw [wrap_small (by omega) (by omega)];omega
 have kE1:=a4A C [val] (by simp)
 have kE2:=a4A C [top,b4Q 1] (by simp)
 have kE3:=a4A C [b4Q 1] (by simp)
 repeat' ((conv=>whnf);first | (with_reducible refine sC (by kernel_rfl) ?_) | ((first | (with_reducible first | refine sB ?_ | refine z7 ?_ | refine z8 ?_) | refine sP (by rfl) ?_);first | refine Or.inl ⟨by first | assumption | (simp only [nm,List.length_map,hdll];first | done | assumption | omega),?_⟩ | refine Or.inr (Or.inl ⟨by first | assumption | (simp only [nm,List.length_map,hdll];first | done | assumption | omega),?_⟩) | (refine Or.inr (Or.inr ⟨fun hsp=>?_,fun hsp=>?_⟩) <;>(try simp only [nm,List.length_map,hdll] at hsp) <;>try subst hsp)) | refine ⟨_,_,TdW16.ok C,?_⟩ | refine ⟨_,_,kst,?_⟩ | refine ⟨_,_,kO0,?_⟩ | refine ⟨_,_,kO1,?_⟩ | refine ⟨_,_,kO2,?_⟩ | refine ⟨_,_,kKk,?_⟩ | refine ⟨_,_,kKo,?_⟩ | refine ⟨_,_,kD,?_⟩ | refine ⟨_,_,kL,?_⟩ | refine ⟨_,_,kG,?_⟩ | refine ⟨_,_,kW,?_⟩ | refine ⟨_,_,kN,?_⟩ | (rw [hAo];refine ⟨_,_,kE1,?_⟩) | (rw [hBo];refine ⟨_,_,kE1,?_⟩) | (rw [hWo];refine ⟨_,_,kE2,?_⟩) | (rw [hYo];refine ⟨_,_,kE3,?_⟩) | refine ⟨_,_,b2j C _,?_⟩ | refine ⟨_,_,kC,?_⟩ | refine sS (e7 (by rfl) (by rfl) (by simp only [List.length_map,hwT];omega) (by simp only [List.length_map,hwT];exact hr2)) ?_ | fail)
 all_goals (conv=>whnf)
 all_goals (first | exact PV.le.refl _ | (refine le_of_eq ?_;simp) | (trace_state;sorry))
end Go.Ab.Td
namespace Go.Ab.Td
set_option maxRecDepth 100000
set_option maxRecDepth 100000
open Go Go.Ab
variable {P:Program}
set_option linter.unusedSimpArgs false
attribute [local irreducible] e9
set_option maxHeartbeats 8000000 in
theorem ok_Def5 (C:Laid P) (s:B8) (cells ops d5:List (List PV)) (kst:l3 P G y8 [.agg [.sl 5 cells,.sl 5 ops,.sl 1 d5]] [] (aS s)) (K0 A0 B0 N0:Int) (S0:List UInt8) (key:Ob) (kO0:l3 P G j1 [a1m K0 A0 B0 N0 S0,.sl 7 (List.map j8 s.heap)] [] (aO key)) (K1 A1 B1 N1:Int) (S1:List UInt8) (val:Ob) (kO1:l3 P G j1 [a1m K1 A1 B1 N1 S1,.sl 7 (List.map j8 s.heap)] [] (aO val)) (K2 A2 B2 N2:Int) (S2:List UInt8) (oth:Ob) (kO2:l3 P G j1 [a1m K2 A2 B2 N2 S2,.sl 7 (List.map j8 s.heap)] [] (aO oth)) (k m:Ob) (e f:Int) (kKk:l3 P G O0 [.sl 7 (List.map j8 s.heap),aO key] [] (.o0 [aO k,pI e])) (kKo:l3 P G O0 [.sl 7 (List.map j8 s.heap),aO oth] [] (.o0 [aO m,pI f])) (he:e=0) (dl:List Ob) (top:Ob) (hdt:s.d5=dl++[top]) (hdl:dl.length≤1000) (T A B W Y:B8) (kD:l3 P G u0 [aS s,.str [100,101,102],.sl 7 (List.map i4 [key,val])] [] (.o0 [aS T,pI 0])) (kL:l3 P G u0 [aS T,.str [108,111,97,100],.sl 7 (List.map i4 [key])] [] (.o0 [aS A,pI 0])) (kG:l3 P G u0 [aS T,.str [103,101,116],.sl 7 (List.map i4 [top,key])] [] (.o0 [aS B,pI 0])) (kW:l3 P G u0 [aS T,.str [119,104,101,114,101],.sl 7 (List.map i4 [key])] [] (.o0 [aS W,pI 0])) (kN:l3 P G u0 [aS T,.str [107,110,111,119,110],.sl 7 (List.map i4 [top,key])] [] (.o0 [aS Y,pI 0])) (hAo:A.ops=[val]) (hBo:B.ops=[val]) (hWo:W.ops=[top,b4Q 1]) (hYo:Y.ops=[b4Q 1]) (kC:l3 P G n_heap_Check [.sl 7 (List.map j8 T.heap)] [] (pI 0)) (hf:f=0) (hmk:¬ m=k) (v:Ob) (b:Bool) (q1:l3 P G I8 [aS s,aO m] [] (.o0 [aO v,.bool b])) (q2:l3 P G I8 [aS T,aO m] [] (.o0 [aO v,.bool b])):l3 P G n_law16_DictDefines [.agg [.sl 5 cells,.sl 5 ops,.sl 1 d5],.agg ([.int .u8 K0,.int .u8 A0,.int .u8 B0,.int .i32 N0,.str S0]++([.int .u8 K1,.int .u8 A1,.int .u8 B1,.int .i32 N1,.str S1]++[.int .u8 K2,.int .u8 A2,.int .u8 B2,.int .i32 N2,.str S2]))] [] (.bool true):=by
 refine k8 C (k_law16_DictDefines C) rfl ?_
 have hr2:(List.map i4 s.d5)[((dl.length:Nat):Int).toNat]?=some (i4 top):=by rw [hdt];simp
 have hdll:s.d5.length=dl.length+1:=by rw [hdt];simp
 have hwT:IntKind.i64.wrap ((s.d5.length:Int) - 1)=(dl.length:Int):=by rw [wrap_small (by omega) (by omega)];omega
 have kE1:=a4A C [val] (by simp)
 have kE2:=a4A C [top,b4Q 1] (by simp)
 have kE3:=a4A C [b4Q 1] (by simp)
 repeat' ((conv=>whnf);first | (with_reducible refine sC (by kernel_rfl) ?_) | ((first | (with_reducible first | refine sB ?_ | refine z7 ?_ | refine z8 ?_) | refine sP (by rfl) ?_);first | refine Or.inl ⟨by first | assumption | (simp only [nm,List.length_map,hdll];first | done | assumption | omega),?_⟩ | refine Or.inr (Or.inl ⟨by first | assumption | (simp only [nm,List.length_map,hdll];first | done | assumption | omega),?_⟩) | (refine Or.inr (Or.inr ⟨fun hsp=>?_,fun hsp=>?_⟩) <;>(try simp only [nm,List.length_map,hdll] at hsp) <;>try subst hsp)) | refine ⟨_,_,TdW16.ok C,?_⟩ | refine ⟨_,_,kst,?_⟩ | refine ⟨_,_,kO0,?_⟩ | refine ⟨_,_,kO1,?_⟩ | refine ⟨_,_,kO2,?_⟩ | refine ⟨_,_,kKk,?_⟩ | refine ⟨_,_,kKo,?_⟩ | refine ⟨_,_,kD,?_⟩ | refine ⟨_,_,kL,?_⟩ | refine ⟨_,_,kG,?_⟩ | refine ⟨_,_,kW,?_⟩ | refine ⟨_,_,kN,?_⟩ | (rw [hAo];refine ⟨_,_,kE1,?_⟩) | (rw [hBo];refine ⟨_,_,kE1,?_⟩) | (rw [hWo];refine ⟨_,_,kE2,?_⟩) | (rw [hYo];refine ⟨_,_,kE3,?_⟩) | refine ⟨_,_,b2j C _,?_⟩ | refine ⟨_,_,kC,?_⟩ | refine ⟨_,_,q1,?_⟩ | refine ⟨_,_,q2,?_⟩ | refine sS (e7 (by rfl) (by rfl) (by simp only [List.length_map,hwT];omega) (by simp only [List.length_map,hwT];exact hr2)) ?_ | fail)
 all_goals (conv=>whnf)
 all_goals (first | exact PV.le.refl _ | (refine le_of_eq ?_;simp) | (trace_state;sorry))
end Go.Ab.Td

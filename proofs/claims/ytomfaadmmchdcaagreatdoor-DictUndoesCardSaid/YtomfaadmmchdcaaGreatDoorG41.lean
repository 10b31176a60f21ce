/- A part of the proof: the texts TdZq1, TdZq2, TdZq3, TdZq4, TdZq5. Under: nothing. -/
import Derived.Test.YtomfaadmmchdcaaGreatDoorG36
import Derived.Test.YtomfaadmmchdcaaGreatDoorG24
import Derived.Test.YtomfaadmmchdcaaGreatDoorG37
set_option linter.unusedVariables false
namespace Go.Ab.Td
set_option maxRecDepth 100000
set_option maxRecDepth 100000
open Go Go.Ab
variable {P:Program}
set_option linter.unusedSimpArgs false
attribute [local irreducible] e9
set_option maxHeartbeats 8000000 in
theorem ok_Und1 (C:Laid P) (s:B8) (cells ops d5:List (List PV)) (kst:l3 P G y8 [.agg [.sl 5 cells,.sl 5 ops,.sl 1 d5]] [] (aS s)) (K0 A0 B0 N0:Int) (S0:List UInt8) (o:Ob) (kO0:l3 P G j1 [a1m K0 A0 B0 N0 S0,.sl 7 (List.map j8 s.heap)] [] (aO o)) (K1 A1 B1 N1:Int) (S1:List UInt8) (key:Ob) (kO1:l3 P G j1 [a1m K1 A1 B1 N1 S1,.sl 7 (List.map j8 s.heap)] [] (aO key)) (K2 A2 B2 N2:Int) (S2:List UInt8) (val:Ob) (kO2:l3 P G j1 [a1m K2 A2 B2 N2 S2,.sl 7 (List.map j8 s.heap)] [] (aO val)) (h9:o.kind≠9) (X:B8) (kB:l3 P G u0 [aS s,.str [98,101,103,105,110],.sl 7 (List.map i4 [o])] [] (.o0 [aS X,pI 22])):l3 P G n_law16_DictUndoes [.agg [.sl 5 cells,.sl 5 ops,.sl 1 d5],.agg ([.int .u8 K0,.int .u8 A0,.int .u8 B0,.int .i32 N0,.str S0]++([.int .u8 K1,.int .u8 A1,.int .u8 B1,.int .i32 N1,.str S1]++[.int .u8 K2,.int .u8 A2,.int .u8 B2,.int .i32 N2,.str S2]))] [] (.bool true):=by
 refine k8 C (k_law16_DictUndoes C) rfl ?_
 repeat' ((conv=>whnf);first | (with_reducible refine sC (by kernel_rfl) ?_) | ((first | (with_reducible first | refine sB ?_ | refine z7 ?_ | refine z8 ?_) | refine sP (by rfl) ?_);first | refine oT ?_ | refine oF ?_ | (refine Or.inr (Or.inr ⟨fun hsp=>?_,fun hsp=>?_⟩) <;>(try simp only [nm,List.length_map] at hsp) <;>try subst hsp)) | refine ⟨_,_,TdW16.ok C,?_⟩ | refine ⟨_,_,kst,?_⟩ | refine ⟨_,_,kO0,?_⟩ | refine ⟨_,_,kO1,?_⟩ | refine ⟨_,_,kO2,?_⟩ | refine ⟨_,_,kB,?_⟩ | fail)
 all_goals (conv=>whnf)
 all_goals (first | exact PV.le.refl _ | (refine le_of_eq ?_;simp) | (trace_state;sorry))
end Go.Ab.Td
namespace Go.Ab.Td
set_option maxRecDepth 100000
set_option maxRecDepth 100000
open Go Go.Ab
variable {P:Program}
set_option linter.unusedSimpArgs false
attribute [local irreducible] e9
set_option maxHeartbeats 8000000 in
theorem ok_Und2 (C:Laid P) (s:B8) (cells ops d5:List (List PV)) (kst:l3 P G y8 [.agg [.sl 5 cells,.sl 5 ops,.sl 1 d5]] [] (aS s)) (K0 A0 B0 N0:Int) (S0:List UInt8) (o:Ob) (kO0:l3 P G j1 [a1m K0 A0 B0 N0 S0,.sl 7 (List.map j8 s.heap)] [] (aO o)) (K1 A1 B1 N1:Int) (S1:List UInt8) (key:Ob) (kO1:l3 P G j1 [a1m K1 A1 B1 N1 S1,.sl 7 (List.map j8 s.heap)] [] (aO key)) (K2 A2 B2 N2:Int) (S2:List UInt8) (val:Ob) (kO2:l3 P G j1 [a1m K2 A2 B2 N2 S2,.sl 7 (List.map j8 s.heap)] [] (aO val)) (h9:o.kind=9) (hd6:s.d5.length≤6) (T U V W:B8) (N:Int) (hN:N=(s.d5.length:Int)+1) (kB:l3 P G u0 [aS s,.str [98,101,103,105,110],.sl 7 (List.map i4 [o])] [] (.o0 [aS T,pI 0])) (kE1:l3 P G u0 [aS T,.str [101,110,100],.emp 7] [] (.o0 [aS U,pI 0])) (kC:l3 P G u0 [aS T,.str [99,117,114,114,101,110,116,100,105,99,116],.emp 7] [] (.o0 [aS V,pI 0])) (kN:l3 P G u0 [aS T,.str [99,111,117,110,116,100,105,99,116,115,116,97,99,107],.emp 7] [] (.o0 [aS W,pI 0])) (hVo:V.ops=[o]) (hWo:W.ops=[inO N]) (kSS:l3 P G w8 [aS U,.agg (.emp 7::(c5y s).tail)] [] (.bool true)) (X:B8) (kP:l3 P G u0 [.agg (.emp 7::(c5y s).tail),.str [112,117,116],.sl 7 (List.map i4 [o,key,val])] [] (.o0 [aS X,pI 22])):l3 P G n_law16_DictUndoes [.agg [.sl 5 cells,.sl 5 ops,.sl 1 d5],.agg ([.int .u8 K0,.int .u8 A0,.int .u8 B0,.int .i32 N0,.str S0]++([.int .u8 K1,.int .u8 A1,.int .u8 B1,.int .i32 N1,.str S1]++[.int .u8 K2,.int .u8 A2,.int .u8 B2,.int .i32 N2,.str S2]))] [] (.bool true):=by
 refine k8 C (k_law16_DictUndoes C) rfl ?_
 have hwN:IntKind.i64.wrap ((s.d5.length:Int)+1)=N:=by rw [wrap_small (by omega) (by omega),hN]
 have kE2:=a4A C [o] (by simp)
 have kE3:=a4A C [inO N] (by simp)
 repeat' ((conv=>whnf);first | (with_reducible refine sC (by kernel_rfl) ?_) | ((first | (with_reducible first | refine sB ?_ | refine z7 ?_ | refine z8 ?_) | refine sP (by rfl) ?_);first | refine oT ?_ | refine oF ?_ | (refine Or.inr (Or.inr ⟨fun hsp=>?_,fun hsp=>?_⟩) <;>(try simp only [nm,List.length_map] at hsp) <;>try subst hsp)) | refine ⟨_,_,TdW16.ok C,?_⟩ | refine ⟨_,_,kst,?_⟩ | refine ⟨_,_,kO0,?_⟩ | refine ⟨_,_,kO1,?_⟩ | refine ⟨_,_,kO2,?_⟩ | refine ⟨_,_,kB,?_⟩ | refine ⟨_,_,kE1,?_⟩ | refine ⟨_,_,kC,?_⟩ | refine ⟨_,_,kN,?_⟩ | refine ⟨_,_,kSS,?_⟩ | (rw [hVo];refine ⟨_,_,kE2,?_⟩) | (rw [hWo];refine ⟨_,_,kE3,?_⟩) | (rw [List.length_map,hwN];refine ⟨_,_,ok_law16_i C N,?_⟩) | (rw [hwN];refine ⟨_,_,ok_law16_i C N,?_⟩) | refine ⟨_,_,kP,?_⟩ | fail)
 all_goals (conv=>whnf)
 all_goals (first | exact PV.le.refl _ | (refine le_of_eq ?_;simp) | (trace_state;sorry))
end Go.Ab.Td
namespace Go.Ab.Td
set_option maxRecDepth 100000
set_option maxRecDepth 100000
open Go Go.Ab
variable {P:Program}
set_option linter.unusedSimpArgs false
attribute [local irreducible] e9
set_option maxHeartbeats 8000000 in
theorem ok_Und3 (C:Laid P) (s:B8) (cells ops d5:List (List PV)) (kst:l3 P G y8 [.agg [.sl 5 cells,.sl 5 ops,.sl 1 d5]] [] (aS s)) (K0 A0 B0 N0:Int) (S0:List UInt8) (o:Ob) (kO0:l3 P G j1 [a1m K0 A0 B0 N0 S0,.sl 7 (List.map j8 s.heap)] [] (aO o)) (K1 A1 B1 N1:Int) (S1:List UInt8) (key:Ob) (kO1:l3 P G j1 [a1m K1 A1 B1 N1 S1,.sl 7 (List.map j8 s.heap)] [] (aO key)) (K2 A2 B2 N2:Int) (S2:List UInt8) (val:Ob) (kO2:l3 P G j1 [a1m K2 A2 B2 N2 S2,.sl 7 (List.map j8 s.heap)] [] (aO val)) (h9:o.kind=9) (hd6:s.d5.length≤6) (T U V W:B8) (N:Int) (hN:N=(s.d5.length:Int)+1) (kB:l3 P G u0 [aS s,.str [98,101,103,105,110],.sl 7 (List.map i4 [o])] [] (.o0 [aS T,pI 0])) (kE1:l3 P G u0 [aS T,.str [101,110,100],.emp 7] [] (.o0 [aS U,pI 0])) (kC:l3 P G u0 [aS T,.str [99,117,114,114,101,110,116,100,105,99,116],.emp 7] [] (.o0 [aS V,pI 0])) (kN:l3 P G u0 [aS T,.str [99,111,117,110,116,100,105,99,116,115,116,97,99,107],.emp 7] [] (.o0 [aS W,pI 0])) (hVo:V.ops=[o]) (hWo:W.ops=[inO N]) (kSS:l3 P G w8 [aS U,.agg (.emp 7::(c5y s).tail)] [] (.bool true)) (X:B8) (kP:l3 P G u0 [.agg (.emp 7::(c5y s).tail),.str [112,117,116],.sl 7 (List.map i4 [o,key,val])] [] (.o0 [aS X,pI 23])):l3 P G n_law16_DictUndoes [.agg [.sl 5 cells,.sl 5 ops,.sl 1 d5],.agg ([.int .u8 K0,.int .u8 A0,.int .u8 B0,.int .i32 N0,.str S0]++([.int .u8 K1,.int .u8 A1,.int .u8 B1,.int .i32 N1,.str S1]++[.int .u8 K2,.int .u8 A2,.int .u8 B2,.int .i32 N2,.str S2]))] [] (.bool true):=by
 refine k8 C (k_law16_DictUndoes C) rfl ?_
 have hwN:IntKind.i64.wrap ((s.d5.length:Int)+1)=N:=by rw [wrap_small (by omega) (by omega),hN]
 have kE2:=a4A C [o] (by simp)
 have kE3:=a4A C [inO N] (by simp)
 repeat' ((conv=>whnf);first | (with_reducible refine sC (by kernel_rfl) ?_) | ((first | (with_reducible first | refine sB ?_ | refine z7 ?_ | refine z8 ?_) | refine sP (by rfl) ?_);first | refine oT ?_ | refine oF ?_ | (refine Or.inr (Or.inr ⟨fun hsp=>?_,fun hsp=>?_⟩) <;>(try simp only [nm,List.length_map] at hsp) <;>try subst hsp)) | refine ⟨_,_,TdW16.ok C,?_⟩ | refine ⟨_,_,kst,?_⟩ | refine ⟨_,_,kO0,?_⟩ | refine ⟨_,_,kO1,?_⟩ | refine ⟨_,_,kO2,?_⟩ | refine ⟨_,_,kB,?_⟩ | refine ⟨_,_,kE1,?_⟩ | refine ⟨_,_,kC,?_⟩ | refine ⟨_,_,kN,?_⟩ | refine ⟨_,_,kSS,?_⟩ | (rw [hVo];refine ⟨_,_,kE2,?_⟩) | (rw [hWo];refine ⟨_,_,kE3,?_⟩) | (rw [List.length_map,hwN];refine ⟨_,_,ok_law16_i C N,?_⟩) | (rw [hwN];refine ⟨_,_,ok_law16_i C N,?_⟩) | refine ⟨_,_,kP,?_⟩ | fail)
 all_goals (conv=>whnf)
 all_goals (first | exact PV.le.refl _ | (refine le_of_eq ?_;simp) | (trace_state;sorry))
end Go.Ab.Td
namespace Go.Ab.Td
set_option maxRecDepth 100000
set_option maxRecDepth 100000
open Go Go.Ab
variable {P:Program}
set_option linter.unusedSimpArgs false
attribute [local irreducible] e9
set_option maxHeartbeats 8000000 in
theorem ok_Und4 (C:Laid P) (s:B8) (cells ops d5:List (List PV)) (kst:l3 P G y8 [.agg [.sl 5 cells,.sl 5 ops,.sl 1 d5]] [] (aS s)) (K0 A0 B0 N0:Int) (S0:List UInt8) (o:Ob) (kO0:l3 P G j1 [a1m K0 A0 B0 N0 S0,.sl 7 (List.map j8 s.heap)] [] (aO o)) (K1 A1 B1 N1:Int) (S1:List UInt8) (key:Ob) (kO1:l3 P G j1 [a1m K1 A1 B1 N1 S1,.sl 7 (List.map j8 s.heap)] [] (aO key)) (K2 A2 B2 N2:Int) (S2:List UInt8) (val:Ob) (kO2:l3 P G j1 [a1m K2 A2 B2 N2 S2,.sl 7 (List.map j8 s.heap)] [] (aO val)) (h9:o.kind=9) (hd6:s.d5.length≤6) (T U V W:B8) (N:Int) (hN:N=(s.d5.length:Int)+1) (kB:l3 P G u0 [aS s,.str [98,101,103,105,110],.sl 7 (List.map i4 [o])] [] (.o0 [aS T,pI 0])) (kE1:l3 P G u0 [aS T,.str [101,110,100],.emp 7] [] (.o0 [aS U,pI 0])) (kC:l3 P G u0 [aS T,.str [99,117,114,114,101,110,116,100,105,99,116],.emp 7] [] (.o0 [aS V,pI 0])) (kN:l3 P G u0 [aS T,.str [99,111,117,110,116,100,105,99,116,115,116,97,99,107],.emp 7] [] (.o0 [aS W,pI 0])) (hVo:V.ops=[o]) (hWo:W.ops=[inO N]) (kSS:l3 P G w8 [aS U,.agg (.emp 7::(c5y s).tail)] [] (.bool true)) (X:B8) (kP:l3 P G u0 [.agg (.emp 7::(c5y s).tail),.str [112,117,116],.sl 7 (List.map i4 [o,key,val])] [] (.o0 [aS X,pI 30])):l3 P G n_law16_DictUndoes [.agg [.sl 5 cells,.sl 5 ops,.sl 1 d5],.agg ([.int .u8 K0,.int .u8 A0,.int .u8 B0,.int .i32 N0,.str S0]++([.int .u8 K1,.int .u8 A1,.int .u8 B1,.int .i32 N1,.str S1]++[.int .u8 K2,.int .u8 A2,.int .u8 B2,.int .i32 N2,.str S2]))] [] (.bool true):=by
 refine k8 C (k_law16_DictUndoes C) rfl ?_
 have hwN:IntKind.i64.wrap ((s.d5.length:Int)+1)=N:=by rw [wrap_small (by omega) (by omega),hN]
 have kE2:=a4A C [o] (by simp)
 have kE3:=a4A C [inO N] (by simp)
 repeat' ((conv=>whnf);first | (with_reducible refine sC (by kernel_rfl) ?_) | ((first | (with_reducible first | refine sB ?_ | refine z7 ?_ | refine z8 ?_) | refine sP (by rfl) ?_);first | refine oT ?_ | refine oF ?_ | (refine Or.inr (Or.inr ⟨fun hsp=>?_,fun hsp=>?_⟩) <;>(try simp only [nm,List.length_map] at hsp) <;>try subst hsp)) | refine ⟨_,_,TdW16.ok C,?_⟩ | refine ⟨_,_,kst,?_⟩ | refine ⟨_,_,kO0,?_⟩ | refine ⟨_,_,kO1,?_⟩ | refine ⟨_,_,kO2,?_⟩ | refine ⟨_,_,kB,?_⟩ | refine ⟨_,_,kE1,?_⟩ | refine ⟨_,_,kC,?_⟩ | refine ⟨_,_,kN,?_⟩ | refine ⟨_,_,kSS,?_⟩ | (rw [hVo];refine ⟨_,_,kE2,?_⟩) | (rw [hWo];refine ⟨_,_,kE3,?_⟩) | (rw [List.length_map,hwN];refine ⟨_,_,ok_law16_i C N,?_⟩) | (rw [hwN];refine ⟨_,_,ok_law16_i C N,?_⟩) | refine ⟨_,_,kP,?_⟩ | fail)
 all_goals (conv=>whnf)
 all_goals (first | exact PV.le.refl _ | (refine le_of_eq ?_;simp) | (trace_state;sorry))
end Go.Ab.Td
namespace Go.Ab.Td
set_option maxRecDepth 100000
set_option maxRecDepth 100000
open Go Go.Ab
variable {P:Program}
set_option linter.unusedSimpArgs false
attribute [local irreducible] e9
set_option maxHeartbeats 8000000 in
theorem ok_Und5 (C:Laid P) (s:B8) (cells ops d5:List (List PV)) (kst:l3 P G y8 [.agg [.sl 5 cells,.sl 5 ops,.sl 1 d5]] [] (aS s)) (K0 A0 B0 N0:Int) (S0:List UInt8) (o:Ob) (kO0:l3 P G j1 [a1m K0 A0 B0 N0 S0,.sl 7 (List.map j8 s.heap)] [] (aO o)) (K1 A1 B1 N1:Int) (S1:List UInt8) (key:Ob) (kO1:l3 P G j1 [a1m K1 A1 B1 N1 S1,.sl 7 (List.map j8 s.heap)] [] (aO key)) (K2 A2 B2 N2:Int) (S2:List UInt8) (val:Ob) (kO2:l3 P G j1 [a1m K2 A2 B2 N2 S2,.sl 7 (List.map j8 s.heap)] [] (aO val)) (h9:o.kind=9) (hd6:s.d5.length≤6) (T U V W:B8) (N:Int) (hN:N=(s.d5.length:Int)+1) (kB:l3 P G u0 [aS s,.str [98,101,103,105,110],.sl 7 (List.map i4 [o])] [] (.o0 [aS T,pI 0])) (kE1:l3 P G u0 [aS T,.str [101,110,100],.emp 7] [] (.o0 [aS U,pI 0])) (kC:l3 P G u0 [aS T,.str [99,117,114,114,101,110,116,100,105,99,116],.emp 7] [] (.o0 [aS V,pI 0])) (kN:l3 P G u0 [aS T,.str [99,111,117,110,116,100,105,99,116,115,116,97,99,107],.emp 7] [] (.o0 [aS W,pI 0])) (hVo:V.ops=[o]) (hWo:W.ops=[inO N]) (kSS:l3 P G w8 [aS U,.agg (.emp 7::(c5y s).tail)] [] (.bool true)) (Q1 Q Y:B8) (kP:l3 P G u0 [.agg (.emp 7::(c5y s).tail),.str [112,117,116],.sl 7 (List.map i4 [o,key,val])] [] (.o0 [aS Q1,pI 0])) (kR:l3 P G u0 [aS Q1,.str [117,110,100,101,102],.sl 7 (List.map i4 [o,key])] [] (.o0 [aS Q,pI 0])) (kY:l3 P G u0 [aS Q,.str [107,110,111,119,110],.sl 7 (List.map i4 [o,key])] [] (.o0 [aS Y,pI 0])) (kA:l3 P G u0 [aS Q,.str [117,110,100,101,102],.sl 7 (List.map i4 [o,key])] [] (.o0 [aS Q,pI 0])) (hYo:Y.ops=[b4Q 0]) (kSQ:l3 P G w8 [aS Q,aS Q] [] (.bool true)) (kCk:l3 P G n_heap_Check [.sl 7 (List.map j8 Q.heap)] [] (pI 0)):l3 P G n_law16_DictUndoes [.agg [.sl 5 cells,.sl 5 ops,.sl 1 d5],.agg ([.int .u8 K0,.int .u8 A0,.int .u8 B0,.int .i32 N0,.str S0]++([.int .u8 K1,.int .u8 A1,.int .u8 B1,.int .i32 N1,.str S1]++[.int .u8 K2,.int .u8 A2,.int .u8 B2,.int .i32 N2,.str S2]))] [] (.bool true):=by
 refine k8 C (k_law16_DictUndoes C) rfl ?_
 have hwN:IntKind.i64.wrap ((s.d5.length:Int)+1)=N:=by rw [wrap_small (by omega) (by omega),hN]
 have kE2:=a4A C [o] (by simp)
 have kE3:=a4A C [inO N] (by simp)
 have kE4:=a4A C [b4Q 0] (by simp)
 repeat' ((conv=>whnf);first | (with_reducible refine sC (by kernel_rfl) ?_) | ((first | (with_reducible first | refine sB ?_ | refine z7 ?_ | refine z8 ?_) | refine sP (by rfl) ?_);first | refine oT ?_ | refine oF ?_ | (refine Or.inr (Or.inr ⟨fun hsp=>?_,fun hsp=>?_⟩) <;>(try simp only [nm,List.length_map] at hsp) <;>try subst hsp)) | refine ⟨_,_,TdW16.ok C,?_⟩ | refine ⟨_,_,kst,?_⟩ | refine ⟨_,_,kO0,?_⟩ | refine ⟨_,_,kO1,?_⟩ | refine ⟨_,_,kO2,?_⟩ | refine ⟨_,_,kB,?_⟩ | refine ⟨_,_,kE1,?_⟩ | refine ⟨_,_,kC,?_⟩ | refine ⟨_,_,kN,?_⟩ | refine ⟨_,_,kSS,?_⟩ | (rw [hVo];refine ⟨_,_,kE2,?_⟩) | (rw [hWo];refine ⟨_,_,kE3,?_⟩) | (rw [List.length_map,hwN];refine ⟨_,_,ok_law16_i C N,?_⟩) | (rw [hwN];refine ⟨_,_,ok_law16_i C N,?_⟩) | refine ⟨_,_,kP,?_⟩ | refine ⟨_,_,kR,?_⟩ | refine ⟨_,_,kY,?_⟩ | refine ⟨_,_,kA,?_⟩ | refine ⟨_,_,kSQ,?_⟩ | refine ⟨_,_,b2j C _,?_⟩ | (rw [hYo];refine ⟨_,_,kE4,?_⟩) | refine ⟨_,_,kCk,?_⟩ | fail)
 all_goals (conv=>whnf)
 all_goals (first | exact PV.le.refl _ | (refine le_of_eq ?_;simp) | (trace_state;sorry))
end Go.Ab.Td

/- A part of the proof: the texts TdSw, TdSx1, TdSx2. Under: nothing. -/
import Derived.Test.YtngmifmcohmfmaaDoorG39
import Derived.Test.YtngmifmcohmfmaaDoorG25
import Derived.Test.YtngmifmcohmfmaaDoorG22
import Derived.Test.YtngmifmcohmfmaaDoorG37
set_option linter.unusedVariables false
namespace Go.Ab.Td
set_option maxRecDepth 100000
set_option maxRecDepth 100000
open Go Go.Ab
variable {P:Program}
set_option linter.unusedSimpArgs false
attribute [local irreducible] e9
set_option maxHeartbeats 8000000 in
theorem b4L (C:Laid P) (s:v9) (w K A B N:Int) (S:List UInt8) (o:Ob) (ko:j4 P G e8 [D4 K A B N S,.sl 7 (List.map j8 s.heap)] [] (aO o)) (hw:w.tmod 8=4) (n:Nat) (hn:n≤s.ops.length) (h1:s.ops.length≤100) (hm:(if IntKind.i64.wrap (1+IntKind.i64.wrap (A.tmod 2))<((List.map i4 s.ops).length:Int) then IntKind.i64.wrap (1+IntKind.i64.wrap (A.tmod 2)) else ((List.map i4 s.ops).length:Int))=(n:Int)):j4 P G i7 [.agg [.int .u8 w,.int .u8 K,.int .u8 A,.int .u8 B,.int .i32 N,.str S],aS s] [] (aS {s with ops:=s.ops.take (s.ops.length - n)}):=by
 refine i5 C (k8 C) rfl ?_
 have k:=G7 C s (n:Int) [] (by omega) (by omega) (by simp;omega) (by omega) (by simp)
 rw [List.append_nil,Int.toNat_natCast] at k
 rw [← hm] at k
 have kI:=b0r k (.cons (.refl _) (.cons (.refl _) (.cons (.emp 7) .nil)))
 repeat' ((conv=>whnf);first | (with_reducible refine sC (by kernel_rfl) ?_) | ((first | (with_reducible first | refine sB ?_ | refine o5 ?_ | refine o6 ?_) | refine sP (by rfl) ?_);first | refine Or.inl ⟨by first | assumption | (simp only [nm,List.length_map,hw];first | done | assumption | omega),?_⟩ | refine Or.inr (Or.inl ⟨by first | assumption | (simp only [nm,List.length_map,hw];first | done | assumption | omega),?_⟩) | (refine Or.inr (Or.inr ⟨fun hsp=>?_,fun hsp=>?_⟩) <;>(try simp only [nm,List.length_map,hw] at hsp) <;>try subst hsp)) | refine ⟨_,_,ko,?_⟩ | refine ⟨_,_,kI,?_⟩ | fail)
 all_goals (conv=>whnf)
 all_goals (first | exact PV.le.refl _ | (exfalso;omega) | ((repeat' (first | (with_reducible exact PV.le.refl _) | exact PV.le.emp _ | exact I3.nil | (with_reducible refine w5 ?_) | (with_reducible refine p8 ?_) | (refine I3.cons ?_ ?_) | (with_reducible refine j9 ?_) | (with_reducible refine x8 ?_) | (with_reducible refine A0 ?_) | (with_reducible refine y3 ?_) | (with_reducible refine q9 ?_) | (refine A3 ?_))) <;>(first | rfl | exact PV.le.refl _ | (simp;done) | (refine le_of_eq ?_;simp;done))))
set_option maxHeartbeats 8000000 in
theorem b2c (C:Laid P) (s:v9) (w K A B N:Int) (S:List UInt8) (o:Ob) (ko:j4 P G e8 [D4 K A B N S,.sl 7 (List.map j8 s.heap)] [] (aO o)) (hw:w.tmod 8=5) (c:Cl) (kc:j4 P G o0 [D4 K A B N S,.sl 7 (List.map j8 s.heap)] [] (aC c)) (hl:¬ (s.heap.length<60∧s.ops.length<100)):j4 P G i7 [.agg [.int .u8 w,.int .u8 K,.int .u8 A,.int .u8 B,.int .i32 N,.str S],aS s] [] (aS s):=by
 refine i5 C (k8 C) rfl ?_
 by_cases hl1:s.heap.length<60
 ·have hl2:¬ s.ops.length<100:=fun x=>hl ⟨hl1,x⟩
  repeat' ((conv=>whnf);first | (with_reducible refine sC (by kernel_rfl) ?_) | ((first | (with_reducible first | refine sB ?_ | refine o5 ?_ | refine o6 ?_) | refine sP (by rfl) ?_);first | refine Or.inl ⟨by first | assumption | (simp only [nm,List.length_map,hw];first | done | assumption | omega),?_⟩ | refine Or.inr (Or.inl ⟨by first | assumption | (simp only [nm,List.length_map,hw];first | done | assumption | omega),?_⟩) | (refine Or.inr (Or.inr ⟨fun hsp=>?_,fun hsp=>?_⟩) <;>(try simp only [nm,List.length_map,hw] at hsp) <;>try subst hsp)) | refine ⟨_,_,ko,?_⟩ | refine ⟨_,_,kc,?_⟩ | fail)
  all_goals (conv=>whnf)
  all_goals (exact PV.le.refl _)
 repeat' ((conv=>whnf);first | (with_reducible refine sC (by kernel_rfl) ?_) | ((first | (with_reducible first | refine sB ?_ | refine o5 ?_ | refine o6 ?_) | refine sP (by rfl) ?_);first | refine Or.inl ⟨by first | assumption | (simp only [nm,List.length_map,hw];first | done | assumption | omega),?_⟩ | refine Or.inr (Or.inl ⟨by first | assumption | (simp only [nm,List.length_map,hw];first | done | assumption | omega),?_⟩) | (refine Or.inr (Or.inr ⟨fun hsp=>?_,fun hsp=>?_⟩) <;>(try simp only [nm,List.length_map,hw] at hsp) <;>try subst hsp)) | refine ⟨_,_,ko,?_⟩ | refine ⟨_,_,kc,?_⟩ | fail)
 all_goals (conv=>whnf)
 all_goals (first | exact PV.le.refl _ | (exfalso;omega) | ((repeat' (first | (with_reducible exact PV.le.refl _) | exact PV.le.emp _ | exact I3.nil | (with_reducible refine w5 ?_) | (with_reducible refine p8 ?_) | (refine I3.cons ?_ ?_) | (with_reducible refine j9 ?_) | (with_reducible refine x8 ?_) | (with_reducible refine A0 ?_) | (with_reducible refine y3 ?_) | (with_reducible refine q9 ?_) | (refine A3 ?_))) <;>(first | rfl | exact PV.le.refl _ | (simp;done) | (refine le_of_eq ?_;simp;done))))
end Go.Ab.Td
namespace Go.Ab.Td
set_option maxRecDepth 100000
set_option maxRecDepth 100000
open Go Go.Ab
variable {P:Program}
set_option linter.unusedSimpArgs false
attribute [local irreducible] e9
set_option maxHeartbeats 8000000 in
theorem b4I (C:Laid P) (s:v9) (w K A B N:Int) (S:List UInt8) (o:Ob) (ko:j4 P G e8 [D4 K A B N S,.sl 7 (List.map j8 s.heap)] [] (aO o)) (hw:w.tmod 8=5) (c:Cl) (kc:j4 P G o0 [D4 K A B N S,.sl 7 (List.map j8 s.heap)] [] (aC c)) (hl1:s.heap.length<60) (hl2:s.ops.length<100) (hk:c.kind≠1):j4 P G i7 [.agg [.int .u8 w,.int .u8 K,.int .u8 A,.int .u8 B,.int .i32 N,.str S],aS s] [] (aS {s with heap:=s.heap++[c]}):=by
 refine i5 C (k8 C) rfl ?_
 repeat' ((conv=>whnf);first | (with_reducible refine sC (by kernel_rfl) ?_) | ((first | (with_reducible first | refine sB ?_ | refine o5 ?_ | refine o6 ?_) | refine sP (by rfl) ?_);first | refine Or.inl ⟨by first | assumption | (simp only [nm,List.length_map,hw];first | done | assumption | omega),?_⟩ | refine Or.inr (Or.inl ⟨by first | assumption | (simp only [nm,List.length_map,hw];first | done | assumption | omega),?_⟩) | (refine Or.inr (Or.inr ⟨fun hsp=>?_,fun hsp=>?_⟩) <;>(try simp only [nm,List.length_map,hw] at hsp) <;>try subst hsp)) | refine ⟨_,_,ko,?_⟩ | refine ⟨_,_,kc,?_⟩ | refine sS (o3 (f:=j8) (x':=s.heap) (by rfl) (by first | exact f0 | exact d8 | exact d9 (by rfl) (by rfl)) (by rfl) (by (try simp only [ln]);omega)) ?_ | refine sS (m0 (f:=j8) (l:=s.heap) (x':=[c]) (by rfl) (by rfl) (by simp) (by first | exact f0 | exact d8 | exact d9 (by rfl) (by rfl)) (by rfl) (by (try simp only [ln]);omega)) ?_ | fail)
 all_goals (conv=>whnf)
 all_goals (first | (exfalso;omega) | (refine p8 (.cons (.refl _) (.cons (.refl _) (.cons (q9 ?_) (I3.refl _))));exact a2f (by simp)))
end Go.Ab.Td
namespace Go.Ab.Td
set_option maxRecDepth 100000
set_option maxRecDepth 100000
open Go Go.Ab
variable {P:Program}
set_option linter.unusedSimpArgs false
attribute [local irreducible] e9
set_option maxHeartbeats 8000000 in
theorem b6F (C:Laid P) (s:v9) (w K A B N:Int) (S:List UInt8) (o:Ob) (ko:j4 P G e8 [D4 K A B N S,.sl 7 (List.map j8 s.heap)] [] (aO o)) (hw:w.tmod 8=5) (c:Cl) (kc:j4 P G o0 [D4 K A B N S,.sl 7 (List.map j8 s.heap)] [] (aC c)) (hl1:s.heap.length<60) (hl2:s.ops.length<100) (hk:c.kind=1):j4 P G i7 [.agg [.int .u8 w,.int .u8 K,.int .u8 A,.int .u8 B,.int .i32 N,.str S],aS s] [] (aS {s with heap:=s.heap++[c],ops:=s.ops++[⟨6,false,0,[],(s.heap.length:Int),0,(c.bytes.length:Int)⟩]}):=by
 refine i5 C (k8 C) rfl ?_
 have z1:IntKind.i64.wrap (IntKind.i64.wrap (0+((s.heap.length+[c].length:Nat):Int)) - 1)=(s.heap.length:Int):=by
  rw [wrap_small (v:=0+((s.heap.length+[c].length:Nat):Int)) (by simp <;>omega) (by simp <;>omega),wrap_small (by simp <;>omega) (by simp <;>omega)]
  simp
 have kI:=G7 C {s with heap:=s.heap++[c]} 0 [⟨6,false,0,[],(s.heap.length:Int),0,(c.bytes.length:Int)⟩] (by decide) (by simp <;>omega) (by simp <;>omega) (by simp <;>omega) (by simp <;>omega)
 rw [show ({s with heap:=s.heap++[c]}:v9).ops.take (({s with heap:=s.heap++[c]}:v9).ops.length - (0:Int).toNat)=s.ops by simp] at kI
 rw [← z1] at kI
 have kI2:j4 P G u3 [.agg [.sl 7 (List.map i4 s.ops),.sl 7 (List.map i4 s.e6),.sl 7 (List.take (s.heap.length+[c].length) (List.drop 0 (List.map j8 (s.heap++[c])))),.sl 3 s.f3,.int .i64 s.f4,.int .i64 s.f5,.int .i64 s.f6,.int .i64 s.f7,.int .i64 s.f8,.int .i64 s.f9,.int .i64 s.f10,.sl 7 s.f11,.int .i64 s.f12,.int .i64 s.f13,.int .i64 s.f14,.int .i64 s.f15,.int .i64 s.f16,.int .i64 s.f17,.int .i64 s.f18,.int .i64 s.f19,.int .i64 s.f20,.int .i64 s.f21,.int .i64 s.f22,.int .i64 s.f23,.int .i64 s.f24,.int .i64 s.f25,.int .i64 s.f26,.int .i64 s.f27,.int .i64 s.f28,.int .i64 s.f29,.int .i64 s.f30,.int .i64 s.f31,.bool s.f32,.bool s.f33,.sl 47 s.f34,.int .i64 s.f35,.int .i64 s.f36,.int .i64 s.f37,.int .i64 s.f38,.int .i64 s.f39,.int .i64 s.f40,.int .i64 s.f41,.int .i64 s.f42,.sl 1 s.f43,.int .i64 s.f44,.int .i64 s.f45,.sl 2 s.f46,.int .i64 s.f47,.bool s.f48,.int .i64 s.f49,.str s.f50,.int .i64 s.f51,.int .i64 s.f52,.int .i64 s.f53,.int .i64 s.f54,.int .i64 s.f55,.int .i64 s.f56,.int .i64 s.f57,.int .i64 s.f58,.int .i64 s.f59,.int .i64 s.f60,.int .i64 s.f61,.sl 57 s.f62,.sl 47 s.f63,.sl 3 s.f64,.str s.f65,.int .i64 s.f66],pI 0,.sl 7 (List.take 1 (List.drop 0 [[.int .i64 6,.bool false,.int .i64 0,.str [],.int .i64 (IntKind.i64.wrap (IntKind.i64.wrap (0+((s.heap.length+[c].length:Nat):Int)) - 1)),.int .i64 0,.int .i64 (c.bytes.length:Int)]]))] [] (.x6 [aS {s with heap:=s.heap++[c],ops:=s.ops++[⟨6,false,0,[],IntKind.i64.wrap (IntKind.i64.wrap (0+((s.heap.length+[c].length:Nat):Int)) - 1),0,(c.bytes.length:Int)⟩]},pI 0]):=by
  rw [a2f (f:=j8) (l:=s.heap++[c]) (n:=s.heap.length+[c].length) (by simp)]
  exact kI
 clear kI
 repeat' ((conv=>whnf);first | (with_reducible refine sC (by kernel_rfl) ?_) | ((first | (with_reducible first | refine sB ?_ | refine o5 ?_ | refine o6 ?_) | refine sP (by rfl) ?_);first | refine Or.inl ⟨by first | assumption | (simp only [nm,List.length_map,hw];first | done | assumption | omega),?_⟩ | refine Or.inr (Or.inl ⟨by first | assumption | (simp only [nm,List.length_map,hw];first | done | assumption | omega),?_⟩) | (refine Or.inr (Or.inr ⟨fun hsp=>?_,fun hsp=>?_⟩) <;>(try simp only [nm,List.length_map,hw] at hsp) <;>try subst hsp)) | refine ⟨_,_,ko,?_⟩ | refine ⟨_,_,kc,?_⟩ | refine ⟨_,_,kI2,?_⟩ | refine sS (o3 (f:=j8) (x':=s.heap) (by rfl) (by first | exact f0 | exact d8 | exact d9 (by rfl) (by rfl)) (by rfl) (by (try simp only [ln]);omega)) ?_ | refine sS (m0 (f:=j8) (l:=s.heap) (x':=[c]) (by rfl) (by rfl) (by simp) (by first | exact f0 | exact d8 | exact d9 (by rfl) (by rfl)) (by rfl) (by (try simp only [ln]);omega)) ?_ | fail)
 all_goals (conv=>whnf)
 all_goals (first | (exfalso;omega) | (refine p8 (.cons (q9 ?_) (.cons (.refl _) (.cons (.refl _) (I3.refl _))));rw [z1]))
end Go.Ab.Td

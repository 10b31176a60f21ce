/- A part of the proof: the texts TdSj, TdSt5, TdSw, TdSx1, TdSx2. Under: nothing. -/
import Derived.Test.YtngmifmcohmfmaaDoorG08
import Derived.Test.YtngmifmcohmfmaaDoorG13
import Derived.Test.YtngmifmcohmfmaaDoorG11
import Derived.Test.YtngmifmcohmfmaaDoorG12
import Derived.Test.YtngmifmcohmfmaaDoorG16
import Derived.Test.YtngmifmcohmfmaaDoorG10
set_option linter.unusedVariables false
namespace Go.Ab.Td
set_option maxRecDepth 100000
set_option maxRecDepth 100000
open Go Go.Ab
variable {P:Program}
set_option linter.unusedSimpArgs false
attribute [local irreducible] d8
theorem ttS {p:Prop} (h:p):tt p=true:=a2G.mpr h
set_option maxHeartbeats 4000000 in
theorem a6x (C:Laid P) (s:B4):j6 P G K1 [.agg (grO s),.agg (grO s)] [] (.bool true):=by
 refine i7 C (a4i C) rfl ?_
 repeat' ((conv=>whnf);first | (with_reducible refine sC (by kernel_rfl) ?_) | ((first | (with_reducible first | refine sB ?_ | refine x8 ?_ | refine x9 ?_) | refine sP (by rfl) ?_);first | refine Or.inl ⟨by first | assumption | (simp only [nm,beq_self_eq_true,Bool.and_self,Bool.and_true,List.length_map];first | done | assumption | omega),?_⟩ | refine Or.inr (Or.inl ⟨by first | assumption | (simp only [nm,beq_self_eq_true,Bool.and_self,Bool.and_true,List.length_map];first | done | assumption | omega),?_⟩) | (refine Or.inr (Or.inr ⟨fun hsp=>?_,fun hsp=>?_⟩) <;>(try simp only [nm,beq_self_eq_true,Bool.and_self,Bool.and_true,List.length_map] at hsp) <;>try subst hsp)) | fail)
 all_goals (conv=>whnf)
 all_goals (first | exact PV.le.refl _ | (refine le_of_eq ?_;simp))
set_option maxHeartbeats 8000000 in
theorem a8c (C:Laid P) (s:B4) (l:List Sn) (ts:List B4) (h3:s.f3=l.map u1) (h62:s.f62=ts.map grO) (hb:big s.heap) (hlb:∀ x ∈ l,big x.heap) (hll:l.length≤1000000) (htl:ts.length≤1000000) (ho:s.ops.length≤1000000) (hd:s.d9.length≤1000000):j6 P G n8 [aS s,aS s] [] (.bool true):=by
 refine i7 C (a0B C) rfl ?_
 have k1:=J6 C s.ops s.ops (by omega)
 rw [ttS rfl] at k1
 have k2:=J6 C s.d9 s.d9 (by omega)
 rw [ttS rfl] at k2
 have k3:=a7E C s.heap s.heap hb
 rw [ttS rfl] at k3
 have hl3:s.f3.length=l.length:=by rw [h3,List.length_map]
 have hl62:s.f62.length=ts.length:=by rw [h62,List.length_map]
 repeat' ((conv=>whnf);first | (with_reducible refine sC (by kernel_rfl) ?_) | ((first | (with_reducible first | refine sB ?_ | refine x8 ?_ | refine x9 ?_) | refine sP (by rfl) ?_);first | refine Or.inl ⟨by first | assumption | (simp only [nm,beq_self_eq_true,Bool.and_self,Bool.and_true,List.length_map,hl3,hl62];first | done | assumption | omega),?_⟩ | refine Or.inr (Or.inl ⟨by first | assumption | (simp only [nm,beq_self_eq_true,Bool.and_self,Bool.and_true,List.length_map,hl3,hl62];first | done | assumption | omega),?_⟩) | (refine Or.inr (Or.inr ⟨fun hsp=>?_,fun hsp=>?_⟩) <;>(try simp only [nm,beq_self_eq_true,Bool.and_self,Bool.and_true,List.length_map,hl3,hl62] at hsp) <;>try subst hsp)) | refine ⟨_,_,k1,?_⟩ | refine ⟨_,_,k2,?_⟩ | refine ⟨_,_,k3,?_⟩ | fail)
 all_goals (conv=>whnf)
 intro X hX hW
 refine a3K hX (fun st (i:Nat)=>st.upd [(5,.pv (pI (i:Int)))] []) (fun i k=>i+k=l.length) 0 l.length (by (conv=>whnf);first | done | rfl) (by omega) ?_
 intro m i ih hI
 rcases a2T l i with ⟨x,hlt,hx⟩ | hge
 ·have hrow:s.f3[(i:Int).toNat]?=some (u1 x):=by rw [h3];exact C0 (f:=u1) hx
  have kx:=a7E C x.heap x.heap (hlb x (List.mem_of_getElem? hx))
  rw [ttS rfl] at kx
  repeat' ((conv=>whnf);first | (with_reducible refine sC (by kernel_rfl) ?_) | ((first | (with_reducible first | refine sB ?_ | refine x8 ?_ | refine x9 ?_) | refine sP (by rfl) ?_);first | refine Or.inl ⟨by first | assumption | (simp only [nm,beq_self_eq_true,Bool.and_self,Bool.and_true,List.length_map,hl3,hl62];first | done | assumption | omega),?_⟩ | refine Or.inr (Or.inl ⟨by first | assumption | (simp only [nm,beq_self_eq_true,Bool.and_self,Bool.and_true,List.length_map,hl3,hl62];first | done | assumption | omega),?_⟩) | (refine Or.inr (Or.inr ⟨fun hsp=>?_,fun hsp=>?_⟩) <;>(try simp only [nm,beq_self_eq_true,Bool.and_self,Bool.and_true,List.length_map,hl3,hl62] at hsp) <;>try subst hsp)) | refine ⟨_,_,kx,?_⟩ | refine sS (e8 (by rfl) (by rfl) (by omega) hrow) ?_ | fail)
  all_goals (conv=>whnf)
  all_goals (refine ih (m - 1) (i+1) _ (by omega) (by omega) (by (conv=>whnf);first | done | rfl | (simp (disch:=omega) only [z6])))
 ·repeat' ((conv=>whnf);first | (with_reducible refine sC (by kernel_rfl) ?_) | ((first | (with_reducible first | refine sB ?_ | refine x8 ?_ | refine x9 ?_) | refine sP (by rfl) ?_);first | refine Or.inl ⟨by first | assumption | (simp only [nm,beq_self_eq_true,Bool.and_self,Bool.and_true,List.length_map,hl3,hl62];first | done | assumption | omega),?_⟩ | refine Or.inr (Or.inl ⟨by first | assumption | (simp only [nm,beq_self_eq_true,Bool.and_self,Bool.and_true,List.length_map,hl3,hl62];first | done | assumption | omega),?_⟩) | (refine Or.inr (Or.inr ⟨fun hsp=>?_,fun hsp=>?_⟩) <;>(try simp only [nm,beq_self_eq_true,Bool.and_self,Bool.and_true,List.length_map,hl3,hl62] at hsp) <;>try subst hsp)) | fail)
  all_goals (conv=>whnf)
  intro Y hY hWY
  refine a3K hY (fun st (i:Nat)=>st.upd [(8,.pv (pI (i:Int)))] []) (fun i k=>i+k=ts.length) 0 ts.length (by (conv=>whnf);first | done | rfl) (by omega) ?_
  intro m i ih hI
  rcases a2T ts i with ⟨x,hlt,hx⟩ | hge2
  ·have hrow:s.f62[(i:Int).toNat]?=some (grO x):=by rw [h62];exact C0 (f:=grO) hx
   repeat' ((conv=>whnf);first | (with_reducible refine sC (by kernel_rfl) ?_) | ((first | (with_reducible first | refine sB ?_ | refine x8 ?_ | refine x9 ?_) | refine sP (by rfl) ?_);first | refine Or.inl ⟨by first | assumption | (simp only [nm,beq_self_eq_true,Bool.and_self,Bool.and_true,List.length_map,hl3,hl62];first | done | assumption | omega),?_⟩ | refine Or.inr (Or.inl ⟨by first | assumption | (simp only [nm,beq_self_eq_true,Bool.and_self,Bool.and_true,List.length_map,hl3,hl62];first | done | assumption | omega),?_⟩) | (refine Or.inr (Or.inr ⟨fun hsp=>?_,fun hsp=>?_⟩) <;>(try simp only [nm,beq_self_eq_true,Bool.and_self,Bool.and_true,List.length_map,hl3,hl62] at hsp) <;>try subst hsp)) | refine ⟨_,_,a6x C x,?_⟩ | refine sS (e8 (by rfl) (by rfl) (by omega) hrow) ?_ | fail)
   all_goals (conv=>whnf)
   all_goals (refine ih (m - 1) (i+1) _ (by omega) (by omega) (by (conv=>whnf);first | done | rfl | (simp (disch:=omega) only [z6])))
  ·repeat' ((conv=>whnf);first | (with_reducible refine sC (by kernel_rfl) ?_) | ((first | (with_reducible first | refine sB ?_ | refine x8 ?_ | refine x9 ?_) | refine sP (by rfl) ?_);first | refine Or.inl ⟨by first | assumption | (simp only [nm,beq_self_eq_true,Bool.and_self,Bool.and_true,List.length_map,hl3,hl62];first | done | assumption | omega),?_⟩ | refine Or.inr (Or.inl ⟨by first | assumption | (simp only [nm,beq_self_eq_true,Bool.and_self,Bool.and_true,List.length_map,hl3,hl62];first | done | assumption | omega),?_⟩) | (refine Or.inr (Or.inr ⟨fun hsp=>?_,fun hsp=>?_⟩) <;>(try simp only [nm,beq_self_eq_true,Bool.and_self,Bool.and_true,List.length_map,hl3,hl62] at hsp) <;>try subst hsp)) | refine ⟨_,_,a6x C s,?_⟩ | fail)
   all_goals (conv=>whnf)
   all_goals (first | exact PV.le.refl _ | (refine le_of_eq ?_;simp))
end Go.Ab.Td
namespace Go.Ab.Td
set_option maxRecDepth 100000
set_option maxRecDepth 100000
open Go Go.Ab
variable {P:Program}
set_option linter.unusedSimpArgs false
attribute [local irreducible] d8
set_option maxHeartbeats 8000000 in
theorem b2m (C:Laid P) (s:B4) (w K A B N:Int) (S:List UInt8) (o:Ob) (ko:j6 P G c9 [B5 K A B N S,.sl 7 (List.map k9 s.heap)] [] (aO o)) (hw:w.tmod 8=3) (hl:s.ops.length<100):j6 P G i3 [.agg [.int .u8 w,.int .u8 K,.int .u8 A,.int .u8 B,.int .i32 N,.str S],aS s] [] (aS {s with ops:=s.ops++[o]}):=by
 refine i7 C (j5 C) rfl ?_
 repeat' ((conv=>whnf);first | (with_reducible refine sC (by kernel_rfl) ?_) | ((first | (with_reducible first | refine sB ?_ | refine x8 ?_ | refine x9 ?_) | refine sP (by rfl) ?_);first | refine Or.inl ⟨by first | assumption | (simp only [nm,List.length_map,hw];first | done | assumption | omega),?_⟩ | refine Or.inr (Or.inl ⟨by first | assumption | (simp only [nm,List.length_map,hw];first | done | assumption | omega),?_⟩) | (refine Or.inr (Or.inr ⟨fun hsp=>?_,fun hsp=>?_⟩) <;>(try simp only [nm,List.length_map,hw] at hsp) <;>try subst hsp)) | refine ⟨_,_,ko,?_⟩ | refine ⟨_,_,(by have k:=F0 C s 0 [o] (by decide) (by omega) (by simp;omega) (by omega) (by simp);rw [show s.ops.take (s.ops.length - (0:Int).toNat)=s.ops by simp] at k;exact k),?_⟩ | fail)
 all_goals (conv=>whnf)
 all_goals (first | exact PV.le.refl _ | (exfalso;omega) | ((repeat' (first | (with_reducible exact PV.le.refl _) | exact PV.le.emp _ | exact K3.nil | (with_reducible refine x6 ?_) | (with_reducible refine s7 ?_) | (refine K3.cons ?_ ?_) | (with_reducible refine l8 ?_) | (with_reducible refine y5 ?_) | (with_reducible refine E2 ?_) | (with_reducible refine C7 ?_) | (with_reducible refine u3 ?_) | (refine E7 ?_))) <;>(first | rfl | exact PV.le.refl _ | (simp;done) | (refine le_of_eq ?_;simp;done))))
set_option maxHeartbeats 8000000 in
theorem b2k (C:Laid P) (s:B4) (w K A B N:Int) (S:List UInt8) (o:Ob) (ko:j6 P G c9 [B5 K A B N S,.sl 7 (List.map k9 s.heap)] [] (aO o)) (hw:w.tmod 8=3) (hl:¬ s.ops.length<100):j6 P G i3 [.agg [.int .u8 w,.int .u8 K,.int .u8 A,.int .u8 B,.int .i32 N,.str S],aS s] [] (aS s):=by
 refine i7 C (j5 C) rfl ?_
 repeat' ((conv=>whnf);first | (with_reducible refine sC (by kernel_rfl) ?_) | ((first | (with_reducible first | refine sB ?_ | refine x8 ?_ | refine x9 ?_) | refine sP (by rfl) ?_);first | refine Or.inl ⟨by first | assumption | (simp only [nm,List.length_map,hw];first | done | assumption | omega),?_⟩ | refine Or.inr (Or.inl ⟨by first | assumption | (simp only [nm,List.length_map,hw];first | done | assumption | omega),?_⟩) | (refine Or.inr (Or.inr ⟨fun hsp=>?_,fun hsp=>?_⟩) <;>(try simp only [nm,List.length_map,hw] at hsp) <;>try subst hsp)) | refine ⟨_,_,ko,?_⟩ | fail)
 all_goals (conv=>whnf)
 all_goals (first | exact PV.le.refl _ | (exfalso;omega) | ((repeat' (first | (with_reducible exact PV.le.refl _) | exact PV.le.emp _ | exact K3.nil | (with_reducible refine x6 ?_) | (with_reducible refine s7 ?_) | (refine K3.cons ?_ ?_) | (with_reducible refine l8 ?_) | (with_reducible refine y5 ?_) | (with_reducible refine E2 ?_) | (with_reducible refine C7 ?_) | (with_reducible refine u3 ?_) | (refine E7 ?_))) <;>(first | rfl | exact PV.le.refl _ | (simp;done) | (refine le_of_eq ?_;simp;done))))
end Go.Ab.Td
namespace Go.Ab.Td
set_option maxRecDepth 100000
set_option maxRecDepth 100000
open Go Go.Ab
variable {P:Program}
set_option linter.unusedSimpArgs false
attribute [local irreducible] d8
set_option maxHeartbeats 8000000 in
theorem b3y (C:Laid P) (s:B4) (w K A B N:Int) (S:List UInt8) (o:Ob) (ko:j6 P G c9 [B5 K A B N S,.sl 7 (List.map k9 s.heap)] [] (aO o)) (hw:w.tmod 8=4) (n:Nat) (hn:n≤s.ops.length) (h1:s.ops.length≤100) (hm:(if IntKind.i64.wrap (1+IntKind.i64.wrap (A.tmod 2))<((List.map g9 s.ops).length:Int) then IntKind.i64.wrap (1+IntKind.i64.wrap (A.tmod 2)) else ((List.map g9 s.ops).length:Int))=(n:Int)):j6 P G i3 [.agg [.int .u8 w,.int .u8 K,.int .u8 A,.int .u8 B,.int .i32 N,.str S],aS s] [] (aS {s with ops:=s.ops.take (s.ops.length - n)}):=by
 refine i7 C (j5 C) rfl ?_
 have k:=F0 C s (n:Int) [] (by omega) (by omega) (by simp;omega) (by omega) (by simp)
 rw [List.append_nil,Int.toNat_natCast] at k
 rw [← hm] at k
 have kI:=a9l k (.cons (.refl _) (.cons (.refl _) (.cons (.emp 7) .nil)))
 repeat' ((conv=>whnf);first | (with_reducible refine sC (by kernel_rfl) ?_) | ((first | (with_reducible first | refine sB ?_ | refine x8 ?_ | refine x9 ?_) | refine sP (by rfl) ?_);first | refine Or.inl ⟨by first | assumption | (simp only [nm,List.length_map,hw];first | done | assumption | omega),?_⟩ | refine Or.inr (Or.inl ⟨by first | assumption | (simp only [nm,List.length_map,hw];first | done | assumption | omega),?_⟩) | (refine Or.inr (Or.inr ⟨fun hsp=>?_,fun hsp=>?_⟩) <;>(try simp only [nm,List.length_map,hw] at hsp) <;>try subst hsp)) | refine ⟨_,_,ko,?_⟩ | refine ⟨_,_,kI,?_⟩ | fail)
 all_goals (conv=>whnf)
 all_goals (first | exact PV.le.refl _ | (exfalso;omega) | ((repeat' (first | (with_reducible exact PV.le.refl _) | exact PV.le.emp _ | exact K3.nil | (with_reducible refine x6 ?_) | (with_reducible refine s7 ?_) | (refine K3.cons ?_ ?_) | (with_reducible refine l8 ?_) | (with_reducible refine y5 ?_) | (with_reducible refine E2 ?_) | (with_reducible refine C7 ?_) | (with_reducible refine u3 ?_) | (refine E7 ?_))) <;>(first | rfl | exact PV.le.refl _ | (simp;done) | (refine le_of_eq ?_;simp;done))))
set_option maxHeartbeats 8000000 in
theorem b0V (C:Laid P) (s:B4) (w K A B N:Int) (S:List UInt8) (o:Ob) (ko:j6 P G c9 [B5 K A B N S,.sl 7 (List.map k9 s.heap)] [] (aO o)) (hw:w.tmod 8=5) (c:Cl) (kc:j6 P G m8 [B5 K A B N S,.sl 7 (List.map k9 s.heap)] [] (aC c)) (hl:¬ (s.heap.length<60∧s.ops.length<100)):j6 P G i3 [.agg [.int .u8 w,.int .u8 K,.int .u8 A,.int .u8 B,.int .i32 N,.str S],aS s] [] (aS s):=by
 refine i7 C (j5 C) rfl ?_
 by_cases hl1:s.heap.length<60
 ·have hl2:¬ s.ops.length<100:=fun x=>hl ⟨hl1,x⟩
  repeat' ((conv=>whnf);first | (with_reducible refine sC (by kernel_rfl) ?_) | ((first | (with_reducible first | refine sB ?_ | refine x8 ?_ | refine x9 ?_) | refine sP (by rfl) ?_);first | refine Or.inl ⟨by first | assumption | (simp only [nm,List.length_map,hw];first | done | assumption | omega),?_⟩ | refine Or.inr (Or.inl ⟨by first | assumption | (simp only [nm,List.length_map,hw];first | done | assumption | omega),?_⟩) | (refine Or.inr (Or.inr ⟨fun hsp=>?_,fun hsp=>?_⟩) <;>(try simp only [nm,List.length_map,hw] at hsp) <;>try subst hsp)) | refine ⟨_,_,ko,?_⟩ | refine ⟨_,_,kc,?_⟩ | fail)
  all_goals (conv=>whnf)
  all_goals (exact PV.le.refl _)
 repeat' ((conv=>whnf);first | (with_reducible refine sC (by kernel_rfl) ?_) | ((first | (with_reducible first | refine sB ?_ | refine x8 ?_ | refine x9 ?_) | refine sP (by rfl) ?_);first | refine Or.inl ⟨by first | assumption | (simp only [nm,List.length_map,hw];first | done | assumption | omega),?_⟩ | refine Or.inr (Or.inl ⟨by first | assumption | (simp only [nm,List.length_map,hw];first | done | assumption | omega),?_⟩) | (refine Or.inr (Or.inr ⟨fun hsp=>?_,fun hsp=>?_⟩) <;>(try simp only [nm,List.length_map,hw] at hsp) <;>try subst hsp)) | refine ⟨_,_,ko,?_⟩ | refine ⟨_,_,kc,?_⟩ | fail)
 all_goals (conv=>whnf)
 all_goals (first | exact PV.le.refl _ | (exfalso;omega) | ((repeat' (first | (with_reducible exact PV.le.refl _) | exact PV.le.emp _ | exact K3.nil | (with_reducible refine x6 ?_) | (with_reducible refine s7 ?_) | (refine K3.cons ?_ ?_) | (with_reducible refine l8 ?_) | (with_reducible refine y5 ?_) | (with_reducible refine E2 ?_) | (with_reducible refine C7 ?_) | (with_reducible refine u3 ?_) | (refine E7 ?_))) <;>(first | rfl | exact PV.le.refl _ | (simp;done) | (refine le_of_eq ?_;simp;done))))
end Go.Ab.Td
namespace Go.Ab.Td
set_option maxRecDepth 100000
set_option maxRecDepth 100000
open Go Go.Ab
variable {P:Program}
set_option linter.unusedSimpArgs false
attribute [local irreducible] d8
set_option maxHeartbeats 8000000 in
theorem b3v (C:Laid P) (s:B4) (w K A B N:Int) (S:List UInt8) (o:Ob) (ko:j6 P G c9 [B5 K A B N S,.sl 7 (List.map k9 s.heap)] [] (aO o)) (hw:w.tmod 8=5) (c:Cl) (kc:j6 P G m8 [B5 K A B N S,.sl 7 (List.map k9 s.heap)] [] (aC c)) (hl1:s.heap.length<60) (hl2:s.ops.length<100) (hk:c.kind≠1):j6 P G i3 [.agg [.int .u8 w,.int .u8 K,.int .u8 A,.int .u8 B,.int .i32 N,.str S],aS s] [] (aS {s with heap:=s.heap++[c]}):=by
 refine i7 C (j5 C) rfl ?_
 repeat' ((conv=>whnf);first | (with_reducible refine sC (by kernel_rfl) ?_) | ((first | (with_reducible first | refine sB ?_ | refine x8 ?_ | refine x9 ?_) | refine sP (by rfl) ?_);first | refine Or.inl ⟨by first | assumption | (simp only [nm,List.length_map,hw];first | done | assumption | omega),?_⟩ | refine Or.inr (Or.inl ⟨by first | assumption | (simp only [nm,List.length_map,hw];first | done | assumption | omega),?_⟩) | (refine Or.inr (Or.inr ⟨fun hsp=>?_,fun hsp=>?_⟩) <;>(try simp only [nm,List.length_map,hw] at hsp) <;>try subst hsp)) | refine ⟨_,_,ko,?_⟩ | refine ⟨_,_,kc,?_⟩ | refine sS (o9 (f:=k9) (x':=s.heap) (by rfl) (by first | exact e9 | exact d6 | exact d7 (by rfl) (by rfl)) (by rfl) (by (try simp only [ln]);omega)) ?_ | refine sS (m7 (f:=k9) (l:=s.heap) (x':=[c]) (by rfl) (by rfl) (by simp) (by first | exact e9 | exact d6 | exact d7 (by rfl) (by rfl)) (by rfl) (by (try simp only [ln]);omega)) ?_ | fail)
 all_goals (conv=>whnf)
 all_goals (first | (exfalso;omega) | (refine s7 (.cons (.refl _) (.cons (.refl _) (.cons (u3 ?_) (K3.refl _))));exact a1D (by simp)))
end Go.Ab.Td
namespace Go.Ab.Td
set_option maxRecDepth 100000
set_option maxRecDepth 100000
open Go Go.Ab
variable {P:Program}
set_option linter.unusedSimpArgs false
attribute [local irreducible] d8
set_option maxHeartbeats 8000000 in
theorem b5g (C:Laid P) (s:B4) (w K A B N:Int) (S:List UInt8) (o:Ob) (ko:j6 P G c9 [B5 K A B N S,.sl 7 (List.map k9 s.heap)] [] (aO o)) (hw:w.tmod 8=5) (c:Cl) (kc:j6 P G m8 [B5 K A B N S,.sl 7 (List.map k9 s.heap)] [] (aC c)) (hl1:s.heap.length<60) (hl2:s.ops.length<100) (hk:c.kind=1):j6 P G i3 [.agg [.int .u8 w,.int .u8 K,.int .u8 A,.int .u8 B,.int .i32 N,.str S],aS s] [] (aS {s with heap:=s.heap++[c],ops:=s.ops++[⟨6,false,0,[],(s.heap.length:Int),0,(c.bytes.length:Int)⟩]}):=by
 refine i7 C (j5 C) rfl ?_
 have z1:IntKind.i64.wrap (IntKind.i64.wrap (0+((s.heap.length+[c].length:Nat):Int)) - 1)=(s.heap.length:Int):=by
  rw [wrap_small (v:=0+((s.heap.length+[c].length:Nat):Int)) (by simp <;>omega) (by simp <;>omega),wrap_small (by simp <;>omega) (by simp <;>omega)]
  simp
 have kI:=F0 C {s with heap:=s.heap++[c]} 0 [⟨6,false,0,[],(s.heap.length:Int),0,(c.bytes.length:Int)⟩] (by decide) (by simp <;>omega) (by simp <;>omega) (by simp <;>omega) (by simp <;>omega)
 rw [show ({s with heap:=s.heap++[c]}:B4).ops.take (({s with heap:=s.heap++[c]}:B4).ops.length - (0:Int).toNat)=s.ops by simp] at kI
 rw [← z1] at kI
 have kI2:j6 P G o7 [.agg [.sl 7 (List.map g9 s.ops),.sl 7 (List.map g9 s.d9),.sl 7 (List.take (s.heap.length+[c].length) (List.drop 0 (List.map k9 (s.heap++[c])))),.sl 3 s.f3,.int .i64 s.f4,.int .i64 s.f5,.int .i64 s.f6,.int .i64 s.f7,.int .i64 s.f8,.int .i64 s.f9,.int .i64 s.f10,.sl 7 s.f11,.int .i64 s.f12,.int .i64 s.f13,.int .i64 s.f14,.int .i64 s.f15,.int .i64 s.f16,.int .i64 s.f17,.int .i64 s.f18,.int .i64 s.f19,.int .i64 s.f20,.int .i64 s.f21,.int .i64 s.f22,.int .i64 s.f23,.int .i64 s.f24,.int .i64 s.f25,.int .i64 s.f26,.int .i64 s.f27,.int .i64 s.f28,.int .i64 s.f29,.int .i64 s.f30,.int .i64 s.f31,.bool s.f32,.bool s.f33,.sl 47 s.f34,.int .i64 s.f35,.int .i64 s.f36,.int .i64 s.f37,.int .i64 s.f38,.int .i64 s.f39,.int .i64 s.f40,.int .i64 s.f41,.int .i64 s.f42,.sl 1 s.f43,.int .i64 s.f44,.int .i64 s.f45,.sl 2 s.f46,.int .i64 s.f47,.bool s.f48,.int .i64 s.f49,.str s.f50,.int .i64 s.f51,.int .i64 s.f52,.int .i64 s.f53,.int .i64 s.f54,.int .i64 s.f55,.int .i64 s.f56,.int .i64 s.f57,.int .i64 s.f58,.int .i64 s.f59,.int .i64 s.f60,.int .i64 s.f61,.sl 57 s.f62,.sl 47 s.f63,.sl 3 s.f64,.str s.f65,.int .i64 s.f66],pI 0,.sl 7 (List.take 1 (List.drop 0 [[.int .i64 6,.bool false,.int .i64 0,.str [],.int .i64 (IntKind.i64.wrap (IntKind.i64.wrap (0+((s.heap.length+[c].length:Nat):Int)) - 1)),.int .i64 0,.int .i64 (c.bytes.length:Int)]]))] [] (.v9 [aS {s with heap:=s.heap++[c],ops:=s.ops++[⟨6,false,0,[],IntKind.i64.wrap (IntKind.i64.wrap (0+((s.heap.length+[c].length:Nat):Int)) - 1),0,(c.bytes.length:Int)⟩]},pI 0]):=by
  rw [a1D (f:=k9) (l:=s.heap++[c]) (n:=s.heap.length+[c].length) (by simp)]
  exact kI
 clear kI
 repeat' ((conv=>whnf);first | (with_reducible refine sC (by kernel_rfl) ?_) | ((first | (with_reducible first | refine sB ?_ | refine x8 ?_ | refine x9 ?_) | refine sP (by rfl) ?_);first | refine Or.inl ⟨by first | assumption | (simp only [nm,List.length_map,hw];first | done | assumption | omega),?_⟩ | refine Or.inr (Or.inl ⟨by first | assumption | (simp only [nm,List.length_map,hw];first | done | assumption | omega),?_⟩) | (refine Or.inr (Or.inr ⟨fun hsp=>?_,fun hsp=>?_⟩) <;>(try simp only [nm,List.length_map,hw] at hsp) <;>try subst hsp)) | refine ⟨_,_,ko,?_⟩ | refine ⟨_,_,kc,?_⟩ | refine ⟨_,_,kI2,?_⟩ | refine sS (o9 (f:=k9) (x':=s.heap) (by rfl) (by first | exact e9 | exact d6 | exact d7 (by rfl) (by rfl)) (by rfl) (by (try simp only [ln]);omega)) ?_ | refine sS (m7 (f:=k9) (l:=s.heap) (x':=[c]) (by rfl) (by rfl) (by simp) (by first | exact e9 | exact d6 | exact d7 (by rfl) (by rfl)) (by rfl) (by (try simp only [ln]);omega)) ?_ | fail)
 all_goals (conv=>whnf)
 all_goals (first | (exfalso;omega) | (refine s7 (.cons (u3 ?_) (.cons (.refl _) (.cons (.refl _) (K3.refl _))));rw [z1]))
end Go.Ab.Td

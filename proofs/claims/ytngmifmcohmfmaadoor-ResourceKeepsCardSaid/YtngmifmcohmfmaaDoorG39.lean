/- A part of the proof: the texts TdSk, TdO. Under: nothing. -/
import Derived.Test.YtngmifmcohmfmaaDoorG26
import Derived.Test.YtngmifmcohmfmaaDoorG34
import Derived.Test.YtngmifmcohmfmaaDoorG30
set_option linter.unusedVariables false
namespace Go.Ab.Td
set_option maxRecDepth 100000
set_option maxRecDepth 100000
open Go Go.Ab
variable {P:Program}
set_option linter.unusedSimpArgs false
attribute [local irreducible] j6
set_option maxHeartbeats 1000000 in
theorem a6X (C:Laid P) (l:List Ob) (hl:l.length≤1000000):l9 P G s7 [.sl 7 (List.map m6 l),.sl 7 (List.map m6 l)] [] (.bool true):=by
 refine l7 C (a2J C) rfl ?_
 repeat' ((conv=>whnf);first | (with_reducible refine sC (by kernel_rfl) ?_) | ((first | (with_reducible first | refine sB ?_ | refine A2 ?_ | refine A3 ?_) | refine sP (by rfl) ?_);first | refine Or.inl ⟨by first | assumption | (simp only [nm,beq_self_eq_true,Bool.and_self,Bool.and_true,List.length_map];first | done | assumption | omega),?_⟩ | refine Or.inr (Or.inl ⟨by first | assumption | (simp only [nm,beq_self_eq_true,Bool.and_self,Bool.and_true,List.length_map];first | done | assumption | omega),?_⟩) | (refine Or.inr (Or.inr ⟨fun hsp=>?_,fun hsp=>?_⟩) <;>(try simp only [nm,beq_self_eq_true,Bool.and_self,Bool.and_true,List.length_map] at hsp) <;>try subst hsp)) | fail)
 all_goals (conv=>whnf)
 intro X hX hW
 refine a6V hX (fun st (i:Nat)=>st.upd [(13,.pv (pI (i:Int)))] []) (fun i k=>i+k=l.length) 0 l.length (by (conv=>whnf);first | done | rfl) (by omega) ?_
 intro m i ih hI
 rcases a5u l i with ⟨x,hlt,hx⟩ | hge
 ·have hrow:=T4 (f:=m6) hx
  repeat' ((conv=>whnf);first | (with_reducible refine sC (by kernel_rfl) ?_) | ((first | (with_reducible first | refine sB ?_ | refine A2 ?_ | refine A3 ?_) | refine sP (by rfl) ?_);first | refine Or.inl ⟨by first | assumption | (simp only [nm,beq_self_eq_true,Bool.and_self,Bool.and_true,List.length_map];first | done | assumption | omega),?_⟩ | refine Or.inr (Or.inl ⟨by first | assumption | (simp only [nm,beq_self_eq_true,Bool.and_self,Bool.and_true,List.length_map];first | done | assumption | omega),?_⟩) | (refine Or.inr (Or.inr ⟨fun hsp=>?_,fun hsp=>?_⟩) <;>(try simp only [nm,beq_self_eq_true,Bool.and_self,Bool.and_true,List.length_map] at hsp) <;>try subst hsp)) | refine sS (i4 (by rfl) (by rfl) (by omega) hrow) ?_ | fail)
  all_goals (conv=>whnf)
  all_goals (refine ih (m - 1) (i+1) _ (by omega) (by omega) (by (conv=>whnf);first | done | rfl | (simp (disch:=omega) only [H8])))
 ·repeat' ((conv=>whnf);first | (with_reducible refine sC (by kernel_rfl) ?_) | ((first | (with_reducible first | refine sB ?_ | refine A2 ?_ | refine A3 ?_) | refine sP (by rfl) ?_);first | refine Or.inl ⟨by first | assumption | (simp only [nm,beq_self_eq_true,Bool.and_self,Bool.and_true,List.length_map];first | done | assumption | omega),?_⟩ | refine Or.inr (Or.inl ⟨by first | assumption | (simp only [nm,beq_self_eq_true,Bool.and_self,Bool.and_true,List.length_map];first | done | assumption | omega),?_⟩) | (refine Or.inr (Or.inr ⟨fun hsp=>?_,fun hsp=>?_⟩) <;>(try simp only [nm,beq_self_eq_true,Bool.and_self,Bool.and_true,List.length_map] at hsp) <;>try subst hsp)) | fail)
  all_goals (conv=>whnf)
  all_goals (exact PV.le.refl _)
set_option maxHeartbeats 1000000 in
theorem b1h (C:Laid P) (b:Bool):l9 P G F4 [.bool b] [] (aO ⟨2,false,(if b=true then 1 else 0),[],0,0,0⟩):=by
 refine l7 C (a6T C) rfl ?_
 cases b
 repeat' ((conv=>whnf);first | (with_reducible refine sC (by kernel_rfl) ?_) | ((first | (with_reducible first | refine sB ?_ | refine A2 ?_ | refine A3 ?_) | refine sP (by rfl) ?_);first | refine oT ?_ | refine oF ?_ | (refine Or.inr (Or.inr ⟨fun hsp=>?_,fun hsp=>?_⟩) <;>(try simp only [nm] at hsp) <;>try subst hsp)) | fail)
 all_goals (conv=>whnf)
 all_goals (exact PV.le.refl _)
set_option maxHeartbeats 1000000 in
theorem b3A (C:Laid P) (s:Q0) (k i c d:Ob) (n:Int) (hs:nOk s) (hd:d.n<9223372036854775808) (h0:1≤n) (h1:n≤s.ops.length) (h2:s.ops.length≤100) (hv:R6 s.heap d [9]=0) (hx:i9 k 0 (cellAt s.heap d).keys<0∨(cellAt s.heap d).v3.length≤i9 k 0 (cellAt s.heap d).keys):l9 P G r7 [aS s,.agg (a3F k i c d n)] [] (.s9 [aS {s with ops:=s.ops.take (s.ops.length - n.toNat)++[],heap:=s.heap},pI 0]):=by
 refine l7 C (H0 C) rfl ?_
 repeat' ((conv=>whnf);first | (with_reducible refine sC (by kernel_rfl) ?_) | ((first | (with_reducible first | refine sB ?_ | refine A2 ?_ | refine A3 ?_) | refine sP (by rfl) ?_);first | refine oT ?_ | refine oF ?_ | (refine Or.inr (Or.inr ⟨fun hsp=>?_,fun hsp=>?_⟩) <;>(try simp only [nm] at hsp) <;>try subst hsp)) | refine ⟨_,_,a8w C s.heap d k hs.1 hd hv hx,?_⟩ | refine ⟨_,_,(b3B (w8 C s k i c d n (s.heap) [] (by omega) (by omega) (by omega) (by simp;omega)) (.cons (.refl _) (.cons (.refl _) (.cons (.refl _) (.cons (.emp 7) .nil))))),?_⟩ | fail)
 all_goals (conv=>whnf)
 all_goals (exact PV.le.refl _)
set_option maxHeartbeats 1000000 in
theorem b7C (C:Laid P) (s:Q0) (k i c d:Ob) (n:Int) (hs:nOk s) (hd:d.n<9223372036854775808) (h0:1≤n) (h1:n≤s.ops.length) (h2:s.ops.length≤100) (hv:R6 s.heap d [9]=0) (q:Nat) (hi:i9 k 0 (cellAt s.heap d).keys=(q:Int)) (hik:q<(cellAt s.heap d).keys.length) (hiv:q<(cellAt s.heap d).v3.length):l9 P G r7 [aS s,.agg (a3F k i c d n)] [] (.s9 [aS {s with ops:=s.ops.take (s.ops.length - n.toNat)++[],heap:=s.heap.set d.ref.toNat (a0z (cellAt s.heap d) q)},pI 0]):=by
 refine l7 C (H0 C) rfl ?_
 repeat' ((conv=>whnf);first | (with_reducible refine sC (by kernel_rfl) ?_) | ((first | (with_reducible first | refine sB ?_ | refine A2 ?_ | refine A3 ?_) | refine sP (by rfl) ?_);first | refine oT ?_ | refine oF ?_ | (refine Or.inr (Or.inr ⟨fun hsp=>?_,fun hsp=>?_⟩) <;>(try simp only [nm] at hsp) <;>try subst hsp)) | refine ⟨_,_,pg C (a8v C s.heap d k hs.1 hd hv q hi hik hiv),?_⟩ | refine ⟨_,_,(b3B (w8 C s k i c d n (s.heap.set d.ref.toNat (a0z (cellAt s.heap d) q)) [] (by omega) (by omega) (by omega) (by simp;omega)) (.cons (.refl _) (.cons (.refl _) (.cons (.refl _) (.cons (.emp 7) .nil))))),?_⟩ | fail)
 all_goals (conv=>whnf)
 all_goals (exact PV.le.refl _)
end Go.Ab.Td
namespace Go.Ab.Td
set_option maxRecDepth 100000
set_option maxRecDepth 100000
open Go Go.Ab
variable {P:Program}
set_option linter.unusedSimpArgs false
attribute [local irreducible] j6
set_option maxHeartbeats 1000000 in
theorem b7B (C:Laid P) (s:Q0) (k i c d:Ob) (n:Int) (hs:nOk s) (hd:d.n<9223372036854775808) (h0:1≤n) (h1:n≤s.ops.length) (h2:s.ops.length≤100) (he:a9M s.heap d k=0):l9 P G v5 [aS s,.agg (a3F k i c d n)] [] (.s9 [aS {s with ops:=s.ops.take (s.ops.length - n.toNat)++[a9N s.heap d k],heap:=s.heap},pI 0]):=by
 refine l7 C (T6 C) rfl ?_
 repeat' ((conv=>whnf);first | (with_reducible refine sC (by kernel_rfl) ?_) | ((with_reducible refine sB ?_);first | refine oT ?_ | refine oF ?_ | (refine Or.inr (Or.inr ⟨fun hsp=>?_,fun hsp=>?_⟩) <;>(try simp only [nm] at hsp) <;>try subst hsp)) | ((with_reducible refine A2 ?_);first | refine oT ?_ | refine oF ?_ | (refine Or.inr (Or.inr ⟨fun hsp=>?_,fun hsp=>?_⟩) <;>(try simp only [nm] at hsp) <;>try subst hsp)) | ((with_reducible refine A3 ?_);first | refine oT ?_ | refine oF ?_ | (refine Or.inr (Or.inr ⟨fun hsp=>?_,fun hsp=>?_⟩) <;>(try simp only [nm] at hsp) <;>try subst hsp)) | ((refine sP (by rfl) ?_);first | refine oT ?_ | refine oF ?_ | (refine Or.inr (Or.inr ⟨fun hsp=>?_,fun hsp=>?_⟩) <;>(try simp only [nm] at hsp) <;>try subst hsp)) | refine ⟨_,_,J8 C s d k hs hd,?_⟩ | refine ⟨_,_,w8 C s k i c d n s.heap [a9N s.heap d k] (by omega) (by omega) (by omega) (by simp only [List.length_cons,List.length_nil];omega),?_⟩ | fail)
 all_goals (conv=>whnf)
 all_goals (exact PV.le.refl _)
set_option maxHeartbeats 1000000 in
theorem b1X (C:Laid P) (s:Q0) (k i c d:Ob) (n:Int) (hs:nOk s) (hd:d.n<9223372036854775808) (h0:1≤n) (h1:n≤s.ops.length) (h2:s.ops.length≤100) (he:a9M s.heap d k=0):l9 P G v7 [aS s,.agg (a3F k i c d n)] [] (.s9 [aS {s with ops:=s.ops.take (s.ops.length - n.toNat)++[⟨2,false,1,[],0,0,0⟩],heap:=s.heap},pI 0]):=by
 refine l7 C (T7 C) rfl ?_
 repeat' ((conv=>whnf);first | (with_reducible refine sC (by kernel_rfl) ?_) | ((with_reducible refine sB ?_);first | refine oT ?_ | refine oF ?_ | (refine Or.inr (Or.inr ⟨fun hsp=>?_,fun hsp=>?_⟩) <;>(try simp only [nm] at hsp) <;>try subst hsp)) | ((with_reducible refine A2 ?_);first | refine oT ?_ | refine oF ?_ | (refine Or.inr (Or.inr ⟨fun hsp=>?_,fun hsp=>?_⟩) <;>(try simp only [nm] at hsp) <;>try subst hsp)) | ((with_reducible refine A3 ?_);first | refine oT ?_ | refine oF ?_ | (refine Or.inr (Or.inr ⟨fun hsp=>?_,fun hsp=>?_⟩) <;>(try simp only [nm] at hsp) <;>try subst hsp)) | ((refine sP (by rfl) ?_);first | refine oT ?_ | refine oF ?_ | (refine Or.inr (Or.inr ⟨fun hsp=>?_,fun hsp=>?_⟩) <;>(try simp only [nm] at hsp) <;>try subst hsp)) | refine ⟨_,_,J8 C s d k hs hd,?_⟩ | refine ⟨_,_,w8 C s k i c d n s.heap [⟨2,false,1,[],0,0,0⟩] (by omega) (by omega) (by omega) (by simp only [List.length_cons,List.length_nil];omega),?_⟩ | fail)
 all_goals (conv=>whnf)
 all_goals (exact PV.le.refl _)
end Go.Ab.Td

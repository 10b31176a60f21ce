/- A part of the proof: the texts TdK. Under: nothing. -/
import Derived.Test.YtngmifmcohmfmaaDoorG29
set_option linter.unusedVariables false
namespace Go.Ab.Td
set_option maxRecDepth 100000
set_option maxRecDepth 100000
open Go Go.Ab
variable {P:Program}
set_option linter.unusedSimpArgs false
set_option linter.unusedVariables false
attribute [local irreducible] j6
set_option maxHeartbeats 1000000 in
theorem w8 (C:Laid P) (s:Q0) (k i c d:Ob) (n:Int) (h:List Cl) (out:List Ob) (h0:0≤n) (h1:n≤s.ops.length) (h2:s.ops.length≤100) (h3:out.length≤n):l9 P G q9 [aS s,.agg (a3F k i c d n),.sl 7 (List.map m9 h),.sl 7 (List.map m6 out)] [] (.s9 [aS {s with ops:=s.ops.take (s.ops.length - n.toNat)++out,heap:=h},pI 0]):=by
 refine l7 C (Y7 C) rfl ?_
 repeat' ((conv=>whnf);first | (with_reducible refine sC (by kernel_rfl) ?_) | ((with_reducible refine sB ?_);first | refine oT ?_ | refine oF ?_ | (refine Or.inr (Or.inr ⟨fun hsp=>?_,fun hsp=>?_⟩) <;>(try simp only [nm] at hsp) <;>try subst hsp)) | ((with_reducible refine A2 ?_);first | refine oT ?_ | refine oF ?_ | (refine Or.inr (Or.inr ⟨fun hsp=>?_,fun hsp=>?_⟩) <;>(try simp only [nm] at hsp) <;>try subst hsp)) | ((with_reducible refine A3 ?_);first | refine oT ?_ | refine oF ?_ | (refine Or.inr (Or.inr ⟨fun hsp=>?_,fun hsp=>?_⟩) <;>(try simp only [nm] at hsp) <;>try subst hsp)) | ((refine sP (by rfl) ?_);first | refine oT ?_ | refine oF ?_ | (refine Or.inr (Or.inr ⟨fun hsp=>?_,fun hsp=>?_⟩) <;>(try simp only [nm] at hsp) <;>try subst hsp)) | refine ⟨_,_,a9X C _ _ _ _ _ _ _ _ _ _ _ _ _ _ _ _ _ _ _ _ _ _ _ _ _ _ _ _ _ _ _ _ _ _ _ _ _ _ _ _ _ _ _ _ _ _ _ _ _ _ _ _ _ _ _ _ _ _ _ _ _ _ _ _ _ _ _ _ (by omega) (by omega) (by omega),?_⟩ | refine ⟨_,_,a9Y C _ _ _ _ _ _ _ _ _ _ _ _ _ _ _ _ _ _ _ _ _ _ _ _ _ _ _ _ _ _ _ _ _ _ _ _ _ _ _ _ _ _ _ _ _ _ _ _ _ _ _ _ _ _ _ _ _ _ _ _ _ _ _ _ _ _ _ out (by simp only [List.length_take];omega),?_⟩ | fail)
 all_goals (conv=>whnf)
 all_goals (exact PV.le.refl _)
set_option maxHeartbeats 1000000 in
theorem b3y (C:Laid P) (s:Q0) (k i c d:Ob) (n:Int) (hx:¬ a2S c.name i):l9 P G l0 [aS s,.agg (a3F k i c d n)] [] (.s9 [aS s,pI 22]):=by
 refine l7 C (B9 C) rfl ?_
 repeat' ((conv=>whnf);first | (with_reducible refine sC (by kernel_rfl) ?_) | ((with_reducible refine sB ?_);first | refine oT ?_ | refine oF ?_ | (refine Or.inr (Or.inr ⟨fun hsp=>?_,fun hsp=>?_⟩) <;>(try simp only [nm] at hsp) <;>try subst hsp)) | ((with_reducible refine A2 ?_);first | refine oT ?_ | refine oF ?_ | (refine Or.inr (Or.inr ⟨fun hsp=>?_,fun hsp=>?_⟩) <;>(try simp only [nm] at hsp) <;>try subst hsp)) | ((with_reducible refine A3 ?_);first | refine oT ?_ | refine oF ?_ | (refine Or.inr (Or.inr ⟨fun hsp=>?_,fun hsp=>?_⟩) <;>(try simp only [nm] at hsp) <;>try subst hsp)) | ((refine sP (by rfl) ?_);first | refine oT ?_ | refine oF ?_ | (refine Or.inr (Or.inr ⟨fun hsp=>?_,fun hsp=>?_⟩) <;>(try simp only [nm] at hsp) <;>try subst hsp)) | refine ⟨_,_,a0u C c.name i,?_⟩ | fail)
 all_goals (conv=>whnf)
 all_goals (exact PV.le.refl _)
set_option maxHeartbeats 1000000 in
theorem b1f (C:Laid P) (s:Q0) (k i c d:Ob) (n:Int) (hs:nOk s) (hd:d.n<9223372036854775808) (hx:a2S c.name i) (hv:R6 s.heap d [9]=0) (hp:a0K (cellAt s.heap d) k i=none):l9 P G l0 [aS s,.agg (a3F k i c d n)] [] (.s9 [aS s,pI 30]):=by
 refine l7 C (B9 C) rfl ?_
 repeat' ((conv=>whnf);first | (with_reducible refine sC (by kernel_rfl) ?_) | ((with_reducible refine sB ?_);first | refine oT ?_ | refine oF ?_ | (refine Or.inr (Or.inr ⟨fun hsp=>?_,fun hsp=>?_⟩) <;>(try simp only [nm] at hsp) <;>try subst hsp)) | ((with_reducible refine A2 ?_);first | refine oT ?_ | refine oF ?_ | (refine Or.inr (Or.inr ⟨fun hsp=>?_,fun hsp=>?_⟩) <;>(try simp only [nm] at hsp) <;>try subst hsp)) | ((with_reducible refine A3 ?_);first | refine oT ?_ | refine oF ?_ | (refine Or.inr (Or.inr ⟨fun hsp=>?_,fun hsp=>?_⟩) <;>(try simp only [nm] at hsp) <;>try subst hsp)) | ((refine sP (by rfl) ?_);first | refine oT ?_ | refine oF ?_ | (refine Or.inr (Or.inr ⟨fun hsp=>?_,fun hsp=>?_⟩) <;>(try simp only [nm] at hsp) <;>try subst hsp)) | refine ⟨_,_,a0u C c.name i,?_⟩ | refine ⟨_,_,a6Y C s.heap d hd k i _ hs.1 (by assumption) (by assumption),?_⟩ | refine ⟨_,_,a2N C s.heap d hd k i hs.1 (by assumption) (by assumption),?_⟩ | refine ⟨_,_,a3h C s.heap d hd k i (by assumption),?_⟩ | refine ⟨_,_,w8 C s k i c d n _ [i] (by omega) (by omega) (by omega) (by simp only [List.length_cons,List.length_nil];omega),?_⟩ | fail)
 all_goals (conv=>whnf)
 all_goals (exact PV.le.refl _)
set_option maxHeartbeats 1000000 in
theorem b7A (C:Laid P) (s:Q0) (k i c d:Ob) (n:Int) (hs:nOk s) (hd:d.n<9223372036854775808) (t:Cl) (h0:1≤n) (h1:n≤s.ops.length) (h2:s.ops.length≤100) (hx:a2S c.name i) (hv:R6 s.heap d [9]=0) (hp:a0K (cellAt s.heap d) k i=some t):l9 P G l0 [aS s,.agg (a3F k i c d n)] [] (.s9 [aS {s with ops:=s.ops.take (s.ops.length - n.toNat)++[i],heap:=s.heap.set d.ref.toNat t},pI 0]):=by
 refine l7 C (B9 C) rfl ?_
 repeat' ((conv=>whnf);first | (with_reducible refine sC (by kernel_rfl) ?_) | ((with_reducible refine sB ?_);first | refine oT ?_ | refine oF ?_ | (refine Or.inr (Or.inr ⟨fun hsp=>?_,fun hsp=>?_⟩) <;>(try simp only [nm] at hsp) <;>try subst hsp)) | ((with_reducible refine A2 ?_);first | refine oT ?_ | refine oF ?_ | (refine Or.inr (Or.inr ⟨fun hsp=>?_,fun hsp=>?_⟩) <;>(try simp only [nm] at hsp) <;>try subst hsp)) | ((with_reducible refine A3 ?_);first | refine oT ?_ | refine oF ?_ | (refine Or.inr (Or.inr ⟨fun hsp=>?_,fun hsp=>?_⟩) <;>(try simp only [nm] at hsp) <;>try subst hsp)) | ((refine sP (by rfl) ?_);first | refine oT ?_ | refine oF ?_ | (refine Or.inr (Or.inr ⟨fun hsp=>?_,fun hsp=>?_⟩) <;>(try simp only [nm] at hsp) <;>try subst hsp)) | refine ⟨_,_,a0u C c.name i,?_⟩ | refine ⟨_,_,a6Y C s.heap d hd k i _ hs.1 (by assumption) (by assumption),?_⟩ | refine ⟨_,_,a2N C s.heap d hd k i hs.1 (by assumption) (by assumption),?_⟩ | refine ⟨_,_,a3h C s.heap d hd k i (by assumption),?_⟩ | refine ⟨_,_,w8 C s k i c d n _ [i] (by omega) (by omega) (by omega) (by simp only [List.length_cons,List.length_nil];omega),?_⟩ | fail)
 all_goals (conv=>whnf)
 all_goals (exact PV.le.refl _)
set_option maxHeartbeats 1000000 in
theorem c0V (C:Laid P) (s t:Q0) (g:Nat) (e:Int) (hs:nOk s) (ha:a6D s 2=0) (hg:l9 P G g [aS s,.agg (a3F (o0 s.heap (opA s 2 0)).1 (opA s 2 1) (o0 s.heap (opA s 2 (2 - 1))).1 (a4b s.heap (o0 s.heap (opA s 2 (2 - 1))).1) 2)] [] (.s9 [aS t,pI e])):l9 P G n4 [.ref [.func (.func i6) [aS s] []],.ref [pI 2],.ref (b0E s),.ref [.func (.func g) [aS s] []]] [] (.s9 [aS t,pI e]):=by
 refine l7 C (I5 C) rfl ?_
 repeat' ((conv=>whnf);first | (with_reducible refine sC (by kernel_rfl) ?_) | ((with_reducible refine sB ?_);first | refine oT ?_ | refine oF ?_ | (refine Or.inr (Or.inr ⟨fun hsp=>?_,fun hsp=>?_⟩) <;>(try simp only [nm] at hsp) <;>try subst hsp)) | ((with_reducible refine A2 ?_);first | refine oT ?_ | refine oF ?_ | (refine Or.inr (Or.inr ⟨fun hsp=>?_,fun hsp=>?_⟩) <;>(try simp only [nm] at hsp) <;>try subst hsp)) | ((with_reducible refine A3 ?_);first | refine oT ?_ | refine oF ?_ | (refine Or.inr (Or.inr ⟨fun hsp=>?_,fun hsp=>?_⟩) <;>(try simp only [nm] at hsp) <;>try subst hsp)) | ((refine sP (by rfl) ?_);first | refine oT ?_ | refine oF ?_ | (refine Or.inr (Or.inr ⟨fun hsp=>?_,fun hsp=>?_⟩) <;>(try simp only [nm] at hsp) <;>try subst hsp)) | refine ⟨_,_,b7y C s hs ha,?_⟩ | refine ⟨_,_,hg,?_⟩ | fail)
 all_goals (conv=>whnf)
 all_goals (exact PV.le.refl _)
set_option maxHeartbeats 1000000 in
theorem b4H (C:Laid P) (s:Q0) (g:Nat) (hs:nOk s) (ha:a6D s 3≠0):l9 P G n4 [.ref [.func (.func i6) [aS s] []],.ref [pI 3],.ref (b0E s),.ref [.func (.func g) [aS s] []]] [] (.s9 [aS s,pI (a6D s 3)]):=by
 refine l7 C (I5 C) rfl ?_
 repeat' ((conv=>whnf);first | (with_reducible refine sC (by kernel_rfl) ?_) | ((with_reducible refine sB ?_);first | refine oT ?_ | refine oF ?_ | (refine Or.inr (Or.inr ⟨fun hsp=>?_,fun hsp=>?_⟩) <;>(try simp only [nm] at hsp) <;>try subst hsp)) | ((with_reducible refine A2 ?_);first | refine oT ?_ | refine oF ?_ | (refine Or.inr (Or.inr ⟨fun hsp=>?_,fun hsp=>?_⟩) <;>(try simp only [nm] at hsp) <;>try subst hsp)) | ((with_reducible refine A3 ?_);first | refine oT ?_ | refine oF ?_ | (refine Or.inr (Or.inr ⟨fun hsp=>?_,fun hsp=>?_⟩) <;>(try simp only [nm] at hsp) <;>try subst hsp)) | ((refine sP (by rfl) ?_);first | refine oT ?_ | refine oF ?_ | (refine Or.inr (Or.inr ⟨fun hsp=>?_,fun hsp=>?_⟩) <;>(try simp only [nm] at hsp) <;>try subst hsp)) | refine ⟨_,_,b1Q C s hs ha,?_⟩ | fail)
 all_goals (conv=>whnf)
 all_goals (exact PV.le.refl _)
set_option maxHeartbeats 1000000 in
theorem c0W (C:Laid P) (s t:Q0) (g:Nat) (e:Int) (hs:nOk s) (ha:a6D s 3=0) (hg:l9 P G g [aS s,.agg (a3F (o0 s.heap (opA s 3 0)).1 (opA s 3 1) (o0 s.heap (opA s 3 (3 - 1))).1 (a4b s.heap (o0 s.heap (opA s 3 (3 - 1))).1) 3)] [] (.s9 [aS t,pI e])):l9 P G n4 [.ref [.func (.func i6) [aS s] []],.ref [pI 3],.ref (b0E s),.ref [.func (.func g) [aS s] []]] [] (.s9 [aS t,pI e]):=by
 refine l7 C (I5 C) rfl ?_
 repeat' ((conv=>whnf);first | (with_reducible refine sC (by kernel_rfl) ?_) | ((with_reducible refine sB ?_);first | refine oT ?_ | refine oF ?_ | (refine Or.inr (Or.inr ⟨fun hsp=>?_,fun hsp=>?_⟩) <;>(try simp only [nm] at hsp) <;>try subst hsp)) | ((with_reducible refine A2 ?_);first | refine oT ?_ | refine oF ?_ | (refine Or.inr (Or.inr ⟨fun hsp=>?_,fun hsp=>?_⟩) <;>(try simp only [nm] at hsp) <;>try subst hsp)) | ((with_reducible refine A3 ?_);first | refine oT ?_ | refine oF ?_ | (refine Or.inr (Or.inr ⟨fun hsp=>?_,fun hsp=>?_⟩) <;>(try simp only [nm] at hsp) <;>try subst hsp)) | ((refine sP (by rfl) ?_);first | refine oT ?_ | refine oF ?_ | (refine Or.inr (Or.inr ⟨fun hsp=>?_,fun hsp=>?_⟩) <;>(try simp only [nm] at hsp) <;>try subst hsp)) | refine ⟨_,_,b7z C s hs ha,?_⟩ | refine ⟨_,_,hg,?_⟩ | fail)
 all_goals (conv=>whnf)
 all_goals (exact PV.le.refl _)
end Go.Ab.Td

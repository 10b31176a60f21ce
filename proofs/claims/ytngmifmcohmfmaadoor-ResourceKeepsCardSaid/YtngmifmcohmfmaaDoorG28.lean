/- A part of the proof: the texts TdI. Under: nothing. -/
import Derived.Test.YtngmifmcohmfmaaDoorG23
set_option linter.unusedVariables false
namespace Go.Ab.Td
set_option maxRecDepth 100000
set_option maxRecDepth 100000
open Go Go.Ab
variable {P:Program}
set_option linter.unusedSimpArgs false
set_option linter.unusedVariables false
attribute [local irreducible] j6
set_option maxHeartbeats 1000000 in
theorem a7z (C:Laid P) (o:Ob):l9 P G y6 [aO o] [] (.bool (tt (o.kind=9))):=by
 refine l7 C (a3e C) rfl ?_
 repeat' ((conv=>whnf);first | (with_reducible refine sC (by kernel_rfl) ?_) | ((with_reducible refine sB ?_);first | refine oT ?_ | refine oF ?_ | (refine Or.inr (Or.inr ⟨fun hsp=>?_,fun hsp=>?_⟩) <;>(try simp only [nm] at hsp) <;>try subst hsp)) | ((with_reducible refine A2 ?_);first | refine oT ?_ | refine oF ?_ | (refine Or.inr (Or.inr ⟨fun hsp=>?_,fun hsp=>?_⟩) <;>(try simp only [nm] at hsp) <;>try subst hsp)) | ((with_reducible refine A3 ?_);first | refine oT ?_ | refine oF ?_ | (refine Or.inr (Or.inr ⟨fun hsp=>?_,fun hsp=>?_⟩) <;>(try simp only [nm] at hsp) <;>try subst hsp)) | ((refine sP (by rfl) ?_);first | refine oT ?_ | refine oF ?_ | (refine Or.inr (Or.inr ⟨fun hsp=>?_,fun hsp=>?_⟩) <;>(try simp only [nm] at hsp) <;>try subst hsp)) | fail)
 all_goals (conv=>whnf)
 all_goals (first | (with_reducible refine L9 ?_) | (with_reducible refine J2 ?_) | (refine N7 ?_;try simp (disch:=omega) only [nm,wrap_small])) <;>(grind)
theorem a6h (C:Laid P) (o_k:Int) (o_e:Bool) (o_n:Int) (o_s:List UInt8) (o_r:Int) (o_f:Int) (o_l:Int):l9 P G y6 [.agg [.int .i64 o_k,.bool o_e,.int .i64 o_n,.str o_s,.int .i64 o_r,.int .i64 o_f,.int .i64 o_l]] [] (.bool (tt (o_k=9))):=a7z C (⟨o_k,o_e,o_n,o_s,o_r,o_f,o_l⟩:Ob)
set_option maxHeartbeats 1000000 in
theorem a6J (C:Laid P) (o:Ob):l9 P G C5 [aO o] [] (.bool (tt (o.kind=7∨o.kind=8))):=by
 refine l7 C (a2H C) rfl ?_
 repeat' ((conv=>whnf);first | (with_reducible refine sC (by kernel_rfl) ?_) | ((with_reducible refine sB ?_);first | refine oT ?_ | refine oF ?_ | (refine Or.inr (Or.inr ⟨fun hsp=>?_,fun hsp=>?_⟩) <;>(try simp only [nm] at hsp) <;>try subst hsp)) | ((with_reducible refine A2 ?_);first | refine oT ?_ | refine oF ?_ | (refine Or.inr (Or.inr ⟨fun hsp=>?_,fun hsp=>?_⟩) <;>(try simp only [nm] at hsp) <;>try subst hsp)) | ((with_reducible refine A3 ?_);first | refine oT ?_ | refine oF ?_ | (refine Or.inr (Or.inr ⟨fun hsp=>?_,fun hsp=>?_⟩) <;>(try simp only [nm] at hsp) <;>try subst hsp)) | ((refine sP (by rfl) ?_);first | refine oT ?_ | refine oF ?_ | (refine Or.inr (Or.inr ⟨fun hsp=>?_,fun hsp=>?_⟩) <;>(try simp only [nm] at hsp) <;>try subst hsp)) | fail)
 all_goals (conv=>whnf)
 all_goals (first | (with_reducible refine L9 ?_) | (with_reducible refine J2 ?_) | (refine N7 ?_;try simp (disch:=omega) only [nm,wrap_small])) <;>(grind)
theorem a5E (C:Laid P) (o_k:Int) (o_e:Bool) (o_n:Int) (o_s:List UInt8) (o_r:Int) (o_f:Int) (o_l:Int):l9 P G C5 [.agg [.int .i64 o_k,.bool o_e,.int .i64 o_n,.str o_s,.int .i64 o_r,.int .i64 o_f,.int .i64 o_l]] [] (.bool (tt (o_k=7∨o_k=8))):=a6J C (⟨o_k,o_e,o_n,o_s,o_r,o_f,o_l⟩:Ob)
set_option maxHeartbeats 1000000 in
theorem a0u (C:Laid P) (c:List UInt8) (o:Ob):l9 P G L4 [.str c,aO o] [] (.bool (tt (a2S c o))):=by
 refine l7 C (a4k C) rfl ?_
 repeat' ((conv=>whnf);first | (with_reducible refine sC (by kernel_rfl) ?_) | ((with_reducible refine sB ?_);first | refine oT ?_ | refine oF ?_ | (refine Or.inr (Or.inr ⟨fun hsp=>?_,fun hsp=>?_⟩) <;>(try simp only [nm] at hsp) <;>try subst hsp)) | ((with_reducible refine A2 ?_);first | refine oT ?_ | refine oF ?_ | (refine Or.inr (Or.inr ⟨fun hsp=>?_,fun hsp=>?_⟩) <;>(try simp only [nm] at hsp) <;>try subst hsp)) | ((with_reducible refine A3 ?_);first | refine oT ?_ | refine oF ?_ | (refine Or.inr (Or.inr ⟨fun hsp=>?_,fun hsp=>?_⟩) <;>(try simp only [nm] at hsp) <;>try subst hsp)) | ((refine sP (by rfl) ?_);first | refine oT ?_ | refine oF ?_ | (refine Or.inr (Or.inr ⟨fun hsp=>?_,fun hsp=>?_⟩) <;>(try simp only [nm] at hsp) <;>try subst hsp)) | refine ⟨_,_,a6h C _ _ _ _ _ _ _,?_⟩ | refine ⟨_,_,a5E C _ _ _ _ _ _ _,?_⟩ | (intro X hX hW) | refine hX _ ?_ | fail)
 all_goals (conv=>whnf)
 all_goals (first | (with_reducible refine L9 ?_) | (with_reducible refine J2 ?_) | (refine N7 ?_;try simp (disch:=omega) only [nm,wrap_small])) <;>(grind [a2S,c2L,c2M,b4R,b2F])
set_option maxHeartbeats 1000000 in
theorem n5 (C:Laid P) (s:Q0) (c:Ob) (hs:nOk s):l9 P G q8 [aS s,aO c] [] (.s9 [aO (a4b s.heap c),pI (a7n s.heap c)]):=by
 refine l7 C (M1 C) rfl ?_
 have hcn:b0y.n<9223372036854775808:=by decide
 by_cases hv:R6 s.heap b0y [9]=0
 repeat' ((conv=>whnf);first | (with_reducible refine sC (by kernel_rfl) ?_) | ((with_reducible refine sB ?_);first | refine oT ?_ | refine oF ?_ | (refine Or.inr (Or.inr ⟨fun hsp=>?_,fun hsp=>?_⟩) <;>(try simp only [nm,List.length_map] at hsp) <;>try subst hsp)) | ((with_reducible refine A2 ?_);first | refine oT ?_ | refine oF ?_ | (refine Or.inr (Or.inr ⟨fun hsp=>?_,fun hsp=>?_⟩) <;>(try simp only [nm,List.length_map] at hsp) <;>try subst hsp)) | ((with_reducible refine A3 ?_);first | refine oT ?_ | refine oF ?_ | (refine Or.inr (Or.inr ⟨fun hsp=>?_,fun hsp=>?_⟩) <;>(try simp only [nm,List.length_map] at hsp) <;>try subst hsp)) | ((refine sP (by rfl) ?_);first | refine oT ?_ | refine oF ?_ | (refine Or.inr (Or.inr ⟨fun hsp=>?_,fun hsp=>?_⟩) <;>(try simp only [nm,List.length_map] at hsp) <;>try subst hsp)) | refine ⟨_,_,a8u C s.heap b0y hcn c hs.1 (by assumption),?_⟩ | refine ⟨_,_,a4l C s.heap b0y hcn c (by assumption),?_⟩ | fail)
 all_goals (conv=>whnf)
 all_goals ((repeat' (first | (with_reducible exact PV.le.refl _) | exact PV.le.emp _ | exact LeL.nil | (with_reducible refine P3 ?_) | (with_reducible refine P2 ?_) | (refine LeL.cons ?_ ?_) | (with_reducible refine z9 ?_) | (with_reducible refine U6 ?_) | (with_reducible refine L9 ?_) | (with_reducible refine J2 ?_) | (with_reducible refine N1 ?_) | (refine N7 ?_))) <;>first | rfl | exact PV.le.refl _ | ((try simp only [Ob.eta,Cl.eta,List.length_map] at*);first | rfl | (refine le_of_eq ?_;congr 1;grind [a7n,a4b,L5]) | grind [a7n,a4b,L5]))
set_option maxHeartbeats 1000000 in
theorem J8 (C:Laid P) (s:Q0) (d k:Ob) (hs:nOk s) (hd:d.n<9223372036854775808):l9 P G u6 [aS s,aO d,aO k] [] (.s9 [aO (a9N s.heap d k),pI (a9M s.heap d k)]):=by
 refine l7 C (Y8 C) rfl ?_
 by_cases hv:R6 s.heap d [9]=0
 repeat' ((conv=>whnf);first | (with_reducible refine sC (by kernel_rfl) ?_) | ((with_reducible refine sB ?_);first | refine oT ?_ | refine oF ?_ | (refine Or.inr (Or.inr ⟨fun hsp=>?_,fun hsp=>?_⟩) <;>(try simp only [nm,List.length_map] at hsp) <;>try subst hsp)) | ((with_reducible refine A2 ?_);first | refine oT ?_ | refine oF ?_ | (refine Or.inr (Or.inr ⟨fun hsp=>?_,fun hsp=>?_⟩) <;>(try simp only [nm,List.length_map] at hsp) <;>try subst hsp)) | ((with_reducible refine A3 ?_);first | refine oT ?_ | refine oF ?_ | (refine Or.inr (Or.inr ⟨fun hsp=>?_,fun hsp=>?_⟩) <;>(try simp only [nm,List.length_map] at hsp) <;>try subst hsp)) | ((refine sP (by rfl) ?_);first | refine oT ?_ | refine oF ?_ | (refine Or.inr (Or.inr ⟨fun hsp=>?_,fun hsp=>?_⟩) <;>(try simp only [nm,List.length_map] at hsp) <;>try subst hsp)) | refine ⟨_,_,a8u C s.heap d hd k hs.1 (by assumption),?_⟩ | refine ⟨_,_,a4l C s.heap d hd k (by assumption),?_⟩ | fail)
 all_goals (conv=>whnf)
 all_goals ((repeat' (first | (with_reducible exact PV.le.refl _) | exact PV.le.emp _ | exact LeL.nil | (with_reducible refine P3 ?_) | (with_reducible refine P2 ?_) | (refine LeL.cons ?_ ?_) | (with_reducible refine z9 ?_) | (with_reducible refine U6 ?_) | (with_reducible refine L9 ?_) | (with_reducible refine J2 ?_) | (with_reducible refine N1 ?_) | (refine N7 ?_))) <;>first | rfl | exact PV.le.refl _ | ((try simp only [Ob.eta,Cl.eta,List.length_map] at*);first | rfl | (refine le_of_eq ?_;congr 1;grind [a9M,a9N,L5]) | grind [a9M,a9N,L5]))
end Go.Ab.Td

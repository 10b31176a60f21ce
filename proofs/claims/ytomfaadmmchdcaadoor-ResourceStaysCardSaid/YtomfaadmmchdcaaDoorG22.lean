/- A part of the proof: the texts TdI. Under: nothing. -/
import Derived.Test.YtomfaadmmchdcaaDoorG17
set_option linter.unusedVariables false
namespace Go.Ab.Td
set_option maxRecDepth 100000
set_option maxRecDepth 100000
open Go Go.Ab
variable {P:Program}
set_option linter.unusedSimpArgs false
set_option linter.unusedVariables false
attribute [local irreducible] g8
set_option maxHeartbeats 1000000 in
theorem a8h (C:Laid P) (o:Ob):l8 P G y9 [aO o] [] (.bool (tt (o.kind=9))):=by
 refine j3 C (a3N C) rfl ?_
 repeat' ((conv=>whnf);first | (with_reducible refine sC (by kernel_rfl) ?_) | ((with_reducible refine sB ?_);first | refine oT ?_ | refine oF ?_ | (refine Or.inr (Or.inr ⟨fun hsp=>?_,fun hsp=>?_⟩) <;>(try simp only [nm] at hsp) <;>try subst hsp)) | ((with_reducible refine x4 ?_);first | refine oT ?_ | refine oF ?_ | (refine Or.inr (Or.inr ⟨fun hsp=>?_,fun hsp=>?_⟩) <;>(try simp only [nm] at hsp) <;>try subst hsp)) | ((with_reducible refine x5 ?_);first | refine oT ?_ | refine oF ?_ | (refine Or.inr (Or.inr ⟨fun hsp=>?_,fun hsp=>?_⟩) <;>(try simp only [nm] at hsp) <;>try subst hsp)) | ((refine sP (by rfl) ?_);first | refine oT ?_ | refine oF ?_ | (refine Or.inr (Or.inr ⟨fun hsp=>?_,fun hsp=>?_⟩) <;>(try simp only [nm] at hsp) <;>try subst hsp)) | fail)
 all_goals (conv=>whnf)
 all_goals (first | (with_reducible refine K8 ?_) | (with_reducible refine K1 ?_) | (refine K7 ?_;try simp (disch:=omega) only [nm,wrap_small])) <;>(grind)
theorem a6H (C:Laid P) (o_k:Int) (o_e:Bool) (o_n:Int) (o_s:List UInt8) (o_r:Int) (o_f:Int) (o_l:Int):l8 P G y9 [.agg [.int .i64 o_k,.bool o_e,.int .i64 o_n,.str o_s,.int .i64 o_r,.int .i64 o_f,.int .i64 o_l]] [] (.bool (tt (o_k=9))):=a8h C (⟨o_k,o_e,o_n,o_s,o_r,o_f,o_l⟩:Ob)
set_option maxHeartbeats 1000000 in
theorem a7g (C:Laid P) (o:Ob):l8 P G D1 [aO o] [] (.bool (tt (o.kind=7∨o.kind=8))):=by
 refine j3 C (a3l C) rfl ?_
 repeat' ((conv=>whnf);first | (with_reducible refine sC (by kernel_rfl) ?_) | ((with_reducible refine sB ?_);first | refine oT ?_ | refine oF ?_ | (refine Or.inr (Or.inr ⟨fun hsp=>?_,fun hsp=>?_⟩) <;>(try simp only [nm] at hsp) <;>try subst hsp)) | ((with_reducible refine x4 ?_);first | refine oT ?_ | refine oF ?_ | (refine Or.inr (Or.inr ⟨fun hsp=>?_,fun hsp=>?_⟩) <;>(try simp only [nm] at hsp) <;>try subst hsp)) | ((with_reducible refine x5 ?_);first | refine oT ?_ | refine oF ?_ | (refine Or.inr (Or.inr ⟨fun hsp=>?_,fun hsp=>?_⟩) <;>(try simp only [nm] at hsp) <;>try subst hsp)) | ((refine sP (by rfl) ?_);first | refine oT ?_ | refine oF ?_ | (refine Or.inr (Or.inr ⟨fun hsp=>?_,fun hsp=>?_⟩) <;>(try simp only [nm] at hsp) <;>try subst hsp)) | fail)
 all_goals (conv=>whnf)
 all_goals (first | (with_reducible refine K8 ?_) | (with_reducible refine K1 ?_) | (refine K7 ?_;try simp (disch:=omega) only [nm,wrap_small])) <;>(grind)
theorem a5Y (C:Laid P) (o_k:Int) (o_e:Bool) (o_n:Int) (o_s:List UInt8) (o_r:Int) (o_f:Int) (o_l:Int):l8 P G D1 [.agg [.int .i64 o_k,.bool o_e,.int .i64 o_n,.str o_s,.int .i64 o_r,.int .i64 o_f,.int .i64 o_l]] [] (.bool (tt (o_k=7∨o_k=8))):=a7g C (⟨o_k,o_e,o_n,o_s,o_r,o_f,o_l⟩:Ob)
set_option maxHeartbeats 1000000 in
theorem a0S (C:Laid P) (c:List UInt8) (o:Ob):l8 P G M6 [.str c,aO o] [] (.bool (tt (a0Z c o))):=by
 refine j3 C (a4L C) rfl ?_
 repeat' ((conv=>whnf);first | (with_reducible refine sC (by kernel_rfl) ?_) | ((with_reducible refine sB ?_);first | refine oT ?_ | refine oF ?_ | (refine Or.inr (Or.inr ⟨fun hsp=>?_,fun hsp=>?_⟩) <;>(try simp only [nm] at hsp) <;>try subst hsp)) | ((with_reducible refine x4 ?_);first | refine oT ?_ | refine oF ?_ | (refine Or.inr (Or.inr ⟨fun hsp=>?_,fun hsp=>?_⟩) <;>(try simp only [nm] at hsp) <;>try subst hsp)) | ((with_reducible refine x5 ?_);first | refine oT ?_ | refine oF ?_ | (refine Or.inr (Or.inr ⟨fun hsp=>?_,fun hsp=>?_⟩) <;>(try simp only [nm] at hsp) <;>try subst hsp)) | ((refine sP (by rfl) ?_);first | refine oT ?_ | refine oF ?_ | (refine Or.inr (Or.inr ⟨fun hsp=>?_,fun hsp=>?_⟩) <;>(try simp only [nm] at hsp) <;>try subst hsp)) | refine ⟨_,_,a6H C _ _ _ _ _ _ _,?_⟩ | refine ⟨_,_,a5Y C _ _ _ _ _ _ _,?_⟩ | (intro X hX hW) | refine hX _ ?_ | fail)
 all_goals (conv=>whnf)
 all_goals (first | (with_reducible refine K8 ?_) | (with_reducible refine K1 ?_) | (refine K7 ?_;try simp (disch:=omega) only [nm,wrap_small])) <;>(grind [a0Z,c1L,c1M,b2R,b0l])
set_option maxHeartbeats 1000000 in
theorem l9 (C:Laid P) (s:C3) (c:Ob) (hs:nOk s):l8 P G o8 [aS s,aO c] [] (.p7 [aO (a7V s.heap c),pI (a4k s.heap c)]):=by
 refine j3 C (N4 C) rfl ?_
 have hcn:a0o.n<9223372036854775808:=by decide
 by_cases hv:N2 s.heap a0o [9]=0
 repeat' ((conv=>whnf);first | (with_reducible refine sC (by kernel_rfl) ?_) | ((with_reducible refine sB ?_);first | refine oT ?_ | refine oF ?_ | (refine Or.inr (Or.inr ⟨fun hsp=>?_,fun hsp=>?_⟩) <;>(try simp only [nm,List.length_map] at hsp) <;>try subst hsp)) | ((with_reducible refine x4 ?_);first | refine oT ?_ | refine oF ?_ | (refine Or.inr (Or.inr ⟨fun hsp=>?_,fun hsp=>?_⟩) <;>(try simp only [nm,List.length_map] at hsp) <;>try subst hsp)) | ((with_reducible refine x5 ?_);first | refine oT ?_ | refine oF ?_ | (refine Or.inr (Or.inr ⟨fun hsp=>?_,fun hsp=>?_⟩) <;>(try simp only [nm,List.length_map] at hsp) <;>try subst hsp)) | ((refine sP (by rfl) ?_);first | refine oT ?_ | refine oF ?_ | (refine Or.inr (Or.inr ⟨fun hsp=>?_,fun hsp=>?_⟩) <;>(try simp only [nm,List.length_map] at hsp) <;>try subst hsp)) | refine ⟨_,_,a9o C s.heap a0o hcn c hs.1 (by assumption),?_⟩ | refine ⟨_,_,a4M C s.heap a0o hcn c (by assumption),?_⟩ | fail)
 all_goals (conv=>whnf)
 all_goals ((repeat' (first | (with_reducible exact PV.le.refl _) | exact PV.le.emp _ | exact N8.nil | (with_reducible refine G2 ?_) | (with_reducible refine M0 ?_) | (refine N8.cons ?_ ?_) | (with_reducible refine w8 ?_) | (with_reducible refine Q8 ?_) | (with_reducible refine K8 ?_) | (with_reducible refine K1 ?_) | (with_reducible refine G1 ?_) | (refine K7 ?_))) <;>first | rfl | exact PV.le.refl _ | ((try simp only [Ob.eta,Cl.eta,List.length_map] at*);first | rfl | (refine le_of_eq ?_;congr 1;grind [a4k,a7V,A2]) | grind [a4k,a7V,A2]))
set_option maxHeartbeats 1000000 in
theorem D5 (C:Laid P) (s:C3) (d k:Ob) (hs:nOk s) (hd:d.n<9223372036854775808):l8 P G u7 [aS s,aO d,aO k] [] (.p7 [aO (b4L s.heap d k),pI (a5S s.heap d k)]):=by
 refine j3 C (a0h C) rfl ?_
 by_cases hv:N2 s.heap d [9]=0
 repeat' ((conv=>whnf);first | (with_reducible refine sC (by kernel_rfl) ?_) | ((with_reducible refine sB ?_);first | refine oT ?_ | refine oF ?_ | (refine Or.inr (Or.inr ⟨fun hsp=>?_,fun hsp=>?_⟩) <;>(try simp only [nm,List.length_map] at hsp) <;>try subst hsp)) | ((with_reducible refine x4 ?_);first | refine oT ?_ | refine oF ?_ | (refine Or.inr (Or.inr ⟨fun hsp=>?_,fun hsp=>?_⟩) <;>(try simp only [nm,List.length_map] at hsp) <;>try subst hsp)) | ((with_reducible refine x5 ?_);first | refine oT ?_ | refine oF ?_ | (refine Or.inr (Or.inr ⟨fun hsp=>?_,fun hsp=>?_⟩) <;>(try simp only [nm,List.length_map] at hsp) <;>try subst hsp)) | ((refine sP (by rfl) ?_);first | refine oT ?_ | refine oF ?_ | (refine Or.inr (Or.inr ⟨fun hsp=>?_,fun hsp=>?_⟩) <;>(try simp only [nm,List.length_map] at hsp) <;>try subst hsp)) | refine ⟨_,_,a9o C s.heap d hd k hs.1 (by assumption),?_⟩ | refine ⟨_,_,a4M C s.heap d hd k (by assumption),?_⟩ | fail)
 all_goals (conv=>whnf)
 all_goals ((repeat' (first | (with_reducible exact PV.le.refl _) | exact PV.le.emp _ | exact N8.nil | (with_reducible refine G2 ?_) | (with_reducible refine M0 ?_) | (refine N8.cons ?_ ?_) | (with_reducible refine w8 ?_) | (with_reducible refine Q8 ?_) | (with_reducible refine K8 ?_) | (with_reducible refine K1 ?_) | (with_reducible refine G1 ?_) | (refine K7 ?_))) <;>first | rfl | exact PV.le.refl _ | ((try simp only [Ob.eta,Cl.eta,List.length_map] at*);first | rfl | (refine le_of_eq ?_;congr 1;grind [a5S,b4L,A2]) | grind [a5S,b4L,A2]))
end Go.Ab.Td

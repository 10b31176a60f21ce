/- A part of the proof: the texts TdD. Under: nothing. -/
import Derived.Test.YtomfaadmmchdcaaDoorG10
set_option linter.unusedVariables false
namespace Go.Ab.Td
set_option maxRecDepth 100000
set_option maxRecDepth 100000
open Go Go.Ab
variable {P:Program}
set_option linter.unusedSimpArgs false
attribute [local irreducible] g8
set_option maxHeartbeats 1000000 in
theorem a4N (C:Laid P) (k:Int) (h0:0≤k) (h1:k<13):l8 P G E9 [pI k] [] (pI (G0 k)):=by
 refine j3 C (a2k C) rfl ?_
 (refine b8B k h0 h1 ?_ ?_ ?_ ?_ ?_ ?_ ?_ ?_ ?_ ?_ ?_ ?_ ?_) <;>(intro hk;subst hk)
 repeat' ((conv=>whnf);first | (with_reducible refine sC (by kernel_rfl) ?_) | ((with_reducible refine sB ?_);first | refine oT ?_ | refine oF ?_ | (refine Or.inr (Or.inr ⟨fun hsp=>?_,fun hsp=>?_⟩) <;>(try simp only [nm] at hsp) <;>try subst hsp)) | ((with_reducible refine x4 ?_);first | refine oT ?_ | refine oF ?_ | (refine Or.inr (Or.inr ⟨fun hsp=>?_,fun hsp=>?_⟩) <;>(try simp only [nm] at hsp) <;>try subst hsp)) | ((with_reducible refine x5 ?_);first | refine oT ?_ | refine oF ?_ | (refine Or.inr (Or.inr ⟨fun hsp=>?_,fun hsp=>?_⟩) <;>(try simp only [nm] at hsp) <;>try subst hsp)) | ((refine sP (by rfl) ?_);first | refine oT ?_ | refine oF ?_ | (refine Or.inr (Or.inr ⟨fun hsp=>?_,fun hsp=>?_⟩) <;>(try simp only [nm] at hsp) <;>try subst hsp)) | fail)
 all_goals (conv=>whnf)
 all_goals (refine w8 ?_;simp [G0])
set_option maxHeartbeats 1000000 in
theorem b2z (C:Laid P) (c:Cl):l8 P G K4 [aC c] [] (pI c.length):=by
 refine j3 C (a4m C) rfl ?_
 repeat' ((conv=>whnf);first | (with_reducible refine sC (by kernel_rfl) ?_) | ((with_reducible refine sB ?_);first | refine oT ?_ | refine oF ?_ | (refine Or.inr (Or.inr ⟨fun hsp=>?_,fun hsp=>?_⟩) <;>(try simp only [nm] at hsp) <;>try subst hsp)) | ((with_reducible refine x4 ?_);first | refine oT ?_ | refine oF ?_ | (refine Or.inr (Or.inr ⟨fun hsp=>?_,fun hsp=>?_⟩) <;>(try simp only [nm] at hsp) <;>try subst hsp)) | ((with_reducible refine x5 ?_);first | refine oT ?_ | refine oF ?_ | (refine Or.inr (Or.inr ⟨fun hsp=>?_,fun hsp=>?_⟩) <;>(try simp only [nm] at hsp) <;>try subst hsp)) | ((refine sP (by rfl) ?_);first | refine oT ?_ | refine oF ?_ | (refine Or.inr (Or.inr ⟨fun hsp=>?_,fun hsp=>?_⟩) <;>(try simp only [nm] at hsp) <;>try subst hsp)) | fail)
 all_goals (conv=>whnf)
 all_goals (refine w8 ?_;simp [Cl.length, *])
theorem a4O (C:Laid P) (c_k:Int) (c_b:List UInt8) (c_i:List Ob) (c_ks:List Ob) (c_vs:List Ob) (c_m:Int) (c_a:Int):l8 P G K4 [.agg [.int .i64 c_k,.str c_b,.sl 7 (List.map i4 c_i),.sl 7 (List.map i4 c_ks),.sl 7 (List.map i4 c_vs),.int .i64 c_m,.int .i64 c_a]] [] (pI (⟨c_k,c_b,c_i,c_ks,c_vs,c_m,c_a⟩:Cl).length):=b2z C (⟨c_k,c_b,c_i,c_ks,c_vs,c_m,c_a⟩:Cl)
set_option maxHeartbeats 1000000 in
theorem a9p (C:Laid P) (h:List Cl) (o:Ob) (ho:o.n<9223372036854775808):l8 P G C4 [.sl 7 (List.map j6 h),aO o] [] (.bool (tt (fits h o))):=by
 refine j3 C (a6s C) rfl ?_
 by_cases hr:o.right
 ·have hb:=a4S hr
  have hk:=b7K hr
  have hof:=b0k hr
  repeat' ((conv=>whnf);first | (with_reducible refine sC (by kernel_rfl) ?_) | ((with_reducible refine sB ?_);first | refine oT ?_ | refine oF ?_ | (refine Or.inr (Or.inr ⟨fun hsp=>?_,fun hsp=>?_⟩) <;>(try simp only [nm,List.length_map,u1,u2] at hsp) <;>try subst hsp)) | ((with_reducible refine x4 ?_);first | refine oT ?_ | refine oF ?_ | (refine Or.inr (Or.inr ⟨fun hsp=>?_,fun hsp=>?_⟩) <;>(try simp only [nm,List.length_map,u1,u2] at hsp) <;>try subst hsp)) | ((with_reducible refine x5 ?_);first | refine oT ?_ | refine oF ?_ | (refine Or.inr (Or.inr ⟨fun hsp=>?_,fun hsp=>?_⟩) <;>(try simp only [nm,List.length_map,u1,u2] at hsp) <;>try subst hsp)) | ((refine sP (by rfl) ?_);first | refine oT ?_ | refine oF ?_ | (refine Or.inr (Or.inr ⟨fun hsp=>?_,fun hsp=>?_⟩) <;>(try simp only [nm,List.length_map,u1,u2] at hsp) <;>try subst hsp)) | refine ⟨_,_,E5 C _ _ _ _ _ _ _ (by assumption),?_⟩ | refine ⟨_,_,a4N C _ (by omega) (by omega),?_⟩ | refine ⟨_,_,a4O C _ _ _ _ _ _ _,?_⟩ | refine sS (e9 (by rfl) (by rfl) (by omega) (l6 (d:=cl0) (by omega) (by omega))) ?_ | fail)
  all_goals (conv=>whnf)
  all_goals (first | (with_reducible refine K8 ?_) | (with_reducible refine K1 ?_) | (refine K7 ?_;try simp (disch:=omega) only [nm,wrap_small])) <;>((try simp (disch:=omega) only [wrap_small]);rw [b1Y hr];grind [cellAt])
 ·repeat' ((conv=>whnf);first | (with_reducible refine sC (by kernel_rfl) ?_) | ((with_reducible refine sB ?_);first | refine oT ?_ | refine oF ?_ | (refine Or.inr (Or.inr ⟨fun hsp=>?_,fun hsp=>?_⟩) <;>(try simp only [nm,List.length_map,u1,u2] at hsp) <;>try subst hsp)) | ((with_reducible refine x4 ?_);first | refine oT ?_ | refine oF ?_ | (refine Or.inr (Or.inr ⟨fun hsp=>?_,fun hsp=>?_⟩) <;>(try simp only [nm,List.length_map,u1,u2] at hsp) <;>try subst hsp)) | ((with_reducible refine x5 ?_);first | refine oT ?_ | refine oF ?_ | (refine Or.inr (Or.inr ⟨fun hsp=>?_,fun hsp=>?_⟩) <;>(try simp only [nm,List.length_map,u1,u2] at hsp) <;>try subst hsp)) | ((refine sP (by rfl) ?_);first | refine oT ?_ | refine oF ?_ | (refine Or.inr (Or.inr ⟨fun hsp=>?_,fun hsp=>?_⟩) <;>(try simp only [nm,List.length_map,u1,u2] at hsp) <;>try subst hsp)) | refine ⟨_,_,E5 C _ _ _ _ _ _ _ (by assumption),?_⟩ | refine ⟨_,_,a4N C _ (by omega) (by omega),?_⟩ | refine ⟨_,_,a4O C _ _ _ _ _ _ _,?_⟩ | refine sS (e9 (by rfl) (by rfl) (by omega) (l6 (d:=cl0) (by omega) (by omega))) ?_ | fail)
  all_goals (conv=>whnf)
  all_goals (first | (with_reducible refine K8 ?_) | (with_reducible refine K1 ?_) | (refine K7 ?_;try simp (disch:=omega) only [nm,wrap_small])) <;>(exact fun hf=>hr hf.1)
theorem a6D (C:Laid P) (h:List Cl) (o_k:Int) (o_e:Bool) (o_n:Int) (o_s:List UInt8) (o_r:Int) (o_f:Int) (o_l:Int) (ho:o_n<9223372036854775808):l8 P G C4 [.sl 7 (List.map j6 h),.agg [.int .i64 o_k,.bool o_e,.int .i64 o_n,.str o_s,.int .i64 o_r,.int .i64 o_f,.int .i64 o_l]] [] (.bool (tt (fits h (⟨o_k,o_e,o_n,o_s,o_r,o_f,o_l⟩:Ob)))):=a9p C h (⟨o_k,o_e,o_n,o_s,o_r,o_f,o_l⟩:Ob) ho
end Go.Ab.Td

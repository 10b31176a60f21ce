/- A part of the proof: the texts TdD. Under: nothing. -/
import Derived.Test.YtomfaadmmchdcaaGreatDoorG08
set_option linter.unusedVariables false
namespace Go.Ab.Td
set_option maxRecDepth 100000
set_option maxRecDepth 100000
open Go Go.Ab
variable {P:Program}
set_option linter.unusedSimpArgs false
attribute [local irreducible] e9
set_option maxHeartbeats 1000000 in
theorem a4X (C:Laid P) (k:Int) (h0:0≤k) (h1:k<13):l3 P G G7 [pI k] [] (pI (E8 k)):=by
 refine k8 C (a2o C) rfl ?_
 (refine b7L k h0 h1 ?_ ?_ ?_ ?_ ?_ ?_ ?_ ?_ ?_ ?_ ?_ ?_ ?_) <;>(intro hk;subst hk)
 repeat' ((conv=>whnf);first | (with_reducible refine sC (by kernel_rfl) ?_) | ((with_reducible refine sB ?_);first | refine oT ?_ | refine oF ?_ | (refine Or.inr (Or.inr ⟨fun hsp=>?_,fun hsp=>?_⟩) <;>(try simp only [nm] at hsp) <;>try subst hsp)) | ((with_reducible refine z7 ?_);first | refine oT ?_ | refine oF ?_ | (refine Or.inr (Or.inr ⟨fun hsp=>?_,fun hsp=>?_⟩) <;>(try simp only [nm] at hsp) <;>try subst hsp)) | ((with_reducible refine z8 ?_);first | refine oT ?_ | refine oF ?_ | (refine Or.inr (Or.inr ⟨fun hsp=>?_,fun hsp=>?_⟩) <;>(try simp only [nm] at hsp) <;>try subst hsp)) | ((refine sP (by rfl) ?_);first | refine oT ?_ | refine oF ?_ | (refine Or.inr (Or.inr ⟨fun hsp=>?_,fun hsp=>?_⟩) <;>(try simp only [nm] at hsp) <;>try subst hsp)) | fail)
 all_goals (conv=>whnf)
 all_goals (refine l0 ?_;simp [E8])
set_option maxHeartbeats 1000000 in
theorem b2i (C:Laid P) (c:Cl):l3 P G I9 [aC c] [] (pI c.length):=by
 refine k8 C (a4t C) rfl ?_
 repeat' ((conv=>whnf);first | (with_reducible refine sC (by kernel_rfl) ?_) | ((with_reducible refine sB ?_);first | refine oT ?_ | refine oF ?_ | (refine Or.inr (Or.inr ⟨fun hsp=>?_,fun hsp=>?_⟩) <;>(try simp only [nm] at hsp) <;>try subst hsp)) | ((with_reducible refine z7 ?_);first | refine oT ?_ | refine oF ?_ | (refine Or.inr (Or.inr ⟨fun hsp=>?_,fun hsp=>?_⟩) <;>(try simp only [nm] at hsp) <;>try subst hsp)) | ((with_reducible refine z8 ?_);first | refine oT ?_ | refine oF ?_ | (refine Or.inr (Or.inr ⟨fun hsp=>?_,fun hsp=>?_⟩) <;>(try simp only [nm] at hsp) <;>try subst hsp)) | ((refine sP (by rfl) ?_);first | refine oT ?_ | refine oF ?_ | (refine Or.inr (Or.inr ⟨fun hsp=>?_,fun hsp=>?_⟩) <;>(try simp only [nm] at hsp) <;>try subst hsp)) | fail)
 all_goals (conv=>whnf)
 all_goals (refine l0 ?_;simp [Cl.length, *])
theorem a4Y (C:Laid P) (c_k:Int) (c_b:List UInt8) (c_i:List Ob) (c_ks:List Ob) (c_vs:List Ob) (c_m:Int) (c_a:Int):l3 P G I9 [.agg [.int .i64 c_k,.str c_b,.sl 7 (List.map i4 c_i),.sl 7 (List.map i4 c_ks),.sl 7 (List.map i4 c_vs),.int .i64 c_m,.int .i64 c_a]] [] (pI (⟨c_k,c_b,c_i,c_ks,c_vs,c_m,c_a⟩:Cl).length):=b2i C (⟨c_k,c_b,c_i,c_ks,c_vs,c_m,c_a⟩:Cl)
set_option maxHeartbeats 1000000 in
theorem a9r (C:Laid P) (h:List Cl) (o:Ob) (ho:o.n<9223372036854775808):l3 P G E2 [.sl 7 (List.map j8 h),aO o] [] (.bool (tt (fits h o))):=by
 refine k8 C (a6A C) rfl ?_
 by_cases hr:o.right
 ·have hb:=a7g hr
  have hk:=b6Q hr
  have hof:=b3M hr
  repeat' ((conv=>whnf);first | (with_reducible refine sC (by kernel_rfl) ?_) | ((with_reducible refine sB ?_);first | refine oT ?_ | refine oF ?_ | (refine Or.inr (Or.inr ⟨fun hsp=>?_,fun hsp=>?_⟩) <;>(try simp only [nm,List.length_map,n8,n9] at hsp) <;>try subst hsp)) | ((with_reducible refine z7 ?_);first | refine oT ?_ | refine oF ?_ | (refine Or.inr (Or.inr ⟨fun hsp=>?_,fun hsp=>?_⟩) <;>(try simp only [nm,List.length_map,n8,n9] at hsp) <;>try subst hsp)) | ((with_reducible refine z8 ?_);first | refine oT ?_ | refine oF ?_ | (refine Or.inr (Or.inr ⟨fun hsp=>?_,fun hsp=>?_⟩) <;>(try simp only [nm,List.length_map,n8,n9] at hsp) <;>try subst hsp)) | ((refine sP (by rfl) ?_);first | refine oT ?_ | refine oF ?_ | (refine Or.inr (Or.inr ⟨fun hsp=>?_,fun hsp=>?_⟩) <;>(try simp only [nm,List.length_map,n8,n9] at hsp) <;>try subst hsp)) | refine ⟨_,_,D1 C _ _ _ _ _ _ _ (by assumption),?_⟩ | refine ⟨_,_,a4X C _ (by omega) (by omega),?_⟩ | refine ⟨_,_,a4Y C _ _ _ _ _ _ _,?_⟩ | refine sS (e7 (by rfl) (by rfl) (by omega) (y6 (d:=cl0) (by omega) (by omega))) ?_ | fail)
  all_goals (conv=>whnf)
  all_goals (first | (with_reducible refine A9 ?_) | (with_reducible refine z9 ?_) | (refine A8 ?_;try simp (disch:=omega) only [nm,wrap_small])) <;>((try simp (disch:=omega) only [wrap_small]);rw [b1N hr];grind [cellAt])
 ·repeat' ((conv=>whnf);first | (with_reducible refine sC (by kernel_rfl) ?_) | ((with_reducible refine sB ?_);first | refine oT ?_ | refine oF ?_ | (refine Or.inr (Or.inr ⟨fun hsp=>?_,fun hsp=>?_⟩) <;>(try simp only [nm,List.length_map,n8,n9] at hsp) <;>try subst hsp)) | ((with_reducible refine z7 ?_);first | refine oT ?_ | refine oF ?_ | (refine Or.inr (Or.inr ⟨fun hsp=>?_,fun hsp=>?_⟩) <;>(try simp only [nm,List.length_map,n8,n9] at hsp) <;>try subst hsp)) | ((with_reducible refine z8 ?_);first | refine oT ?_ | refine oF ?_ | (refine Or.inr (Or.inr ⟨fun hsp=>?_,fun hsp=>?_⟩) <;>(try simp only [nm,List.length_map,n8,n9] at hsp) <;>try subst hsp)) | ((refine sP (by rfl) ?_);first | refine oT ?_ | refine oF ?_ | (refine Or.inr (Or.inr ⟨fun hsp=>?_,fun hsp=>?_⟩) <;>(try simp only [nm,List.length_map,n8,n9] at hsp) <;>try subst hsp)) | refine ⟨_,_,D1 C _ _ _ _ _ _ _ (by assumption),?_⟩ | refine ⟨_,_,a4X C _ (by omega) (by omega),?_⟩ | refine ⟨_,_,a4Y C _ _ _ _ _ _ _,?_⟩ | refine sS (e7 (by rfl) (by rfl) (by omega) (y6 (d:=cl0) (by omega) (by omega))) ?_ | fail)
  all_goals (conv=>whnf)
  all_goals (first | (with_reducible refine A9 ?_) | (with_reducible refine z9 ?_) | (refine A8 ?_;try simp (disch:=omega) only [nm,wrap_small])) <;>(exact fun hf=>hr hf.1)
theorem a6J (C:Laid P) (h:List Cl) (o_k:Int) (o_e:Bool) (o_n:Int) (o_s:List UInt8) (o_r:Int) (o_f:Int) (o_l:Int) (ho:o_n<9223372036854775808):l3 P G E2 [.sl 7 (List.map j8 h),.agg [.int .i64 o_k,.bool o_e,.int .i64 o_n,.str o_s,.int .i64 o_r,.int .i64 o_f,.int .i64 o_l]] [] (.bool (tt (fits h (⟨o_k,o_e,o_n,o_s,o_r,o_f,o_l⟩:Ob)))):=a9r C h (⟨o_k,o_e,o_n,o_s,o_r,o_f,o_l⟩:Ob) ho
end Go.Ab.Td

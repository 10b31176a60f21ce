/- A part of the proof: the texts TdD, TdE, TdF. Under: nothing. -/
import Derived.Test.YtngmifmcohmfmaaDoorG08
import Derived.Test.YtngmifmcohmfmaaDoorG05
set_option linter.unusedVariables false
namespace Go.Ab.Td
set_option maxRecDepth 100000
set_option maxRecDepth 100000
open Go Go.Ab
variable {P:Program}
set_option linter.unusedSimpArgs false
attribute [local irreducible] f0
set_option maxHeartbeats 1000000 in
theorem a5o (C:Laid P) (k:Int) (h0:0≤k) (h1:k<13):j5 P G B5 [pI k] [] (pI (G9 k)):=by
 refine i5 C (a0b C) rfl ?_
 (refine b9O k h0 h1 ?_ ?_ ?_ ?_ ?_ ?_ ?_ ?_ ?_ ?_ ?_ ?_ ?_) <;>(intro hk;subst hk)
 repeat' ((conv=>whnf);first | (with_reducible refine sC (by kernel_rfl) ?_) | ((with_reducible refine sB ?_);first | refine oT ?_ | refine oF ?_ | (refine Or.inr (Or.inr ⟨fun hsp=>?_,fun hsp=>?_⟩) <;>(try simp only [nm] at hsp) <;>try subst hsp)) | ((with_reducible refine p8 ?_);first | refine oT ?_ | refine oF ?_ | (refine Or.inr (Or.inr ⟨fun hsp=>?_,fun hsp=>?_⟩) <;>(try simp only [nm] at hsp) <;>try subst hsp)) | ((with_reducible refine p9 ?_);first | refine oT ?_ | refine oF ?_ | (refine Or.inr (Or.inr ⟨fun hsp=>?_,fun hsp=>?_⟩) <;>(try simp only [nm] at hsp) <;>try subst hsp)) | ((refine sP (by rfl) ?_);first | refine oT ?_ | refine oF ?_ | (refine Or.inr (Or.inr ⟨fun hsp=>?_,fun hsp=>?_⟩) <;>(try simp only [nm] at hsp) <;>try subst hsp)) | fail)
 all_goals (conv=>whnf)
 all_goals (refine l0 ?_;simp [G9])
set_option maxHeartbeats 1000000 in
theorem b3q (C:Laid P) (c:Cl):j5 P G G0 [aC c] [] (pI c.length):=by
 refine i5 C (a1R C) rfl ?_
 repeat' ((conv=>whnf);first | (with_reducible refine sC (by kernel_rfl) ?_) | ((with_reducible refine sB ?_);first | refine oT ?_ | refine oF ?_ | (refine Or.inr (Or.inr ⟨fun hsp=>?_,fun hsp=>?_⟩) <;>(try simp only [nm] at hsp) <;>try subst hsp)) | ((with_reducible refine p8 ?_);first | refine oT ?_ | refine oF ?_ | (refine Or.inr (Or.inr ⟨fun hsp=>?_,fun hsp=>?_⟩) <;>(try simp only [nm] at hsp) <;>try subst hsp)) | ((with_reducible refine p9 ?_);first | refine oT ?_ | refine oF ?_ | (refine Or.inr (Or.inr ⟨fun hsp=>?_,fun hsp=>?_⟩) <;>(try simp only [nm] at hsp) <;>try subst hsp)) | ((refine sP (by rfl) ?_);first | refine oT ?_ | refine oF ?_ | (refine Or.inr (Or.inr ⟨fun hsp=>?_,fun hsp=>?_⟩) <;>(try simp only [nm] at hsp) <;>try subst hsp)) | fail)
 all_goals (conv=>whnf)
 all_goals (refine l0 ?_;simp [Cl.length, *])
theorem a5p (C:Laid P) (c_k:Int) (c_b:List UInt8) (c_i:List Ob) (c_ks:List Ob) (c_vs:List Ob) (c_m:Int) (c_a:Int):j5 P G G0 [.agg [.int .i64 c_k,.str c_b,.sl 7 (List.map g8 c_i),.sl 7 (List.map g8 c_ks),.sl 7 (List.map g8 c_vs),.int .i64 c_m,.int .i64 c_a]] [] (pI (⟨c_k,c_b,c_i,c_ks,c_vs,c_m,c_a⟩:Cl).length):=b3q C (⟨c_k,c_b,c_i,c_ks,c_vs,c_m,c_a⟩:Cl)
set_option maxHeartbeats 1000000 in
theorem a9R (C:Laid P) (h:List Cl) (o:Ob) (ho:o.n<9223372036854775808):j5 P G A6 [.sl 7 (List.map j6 h),aO o] [] (.bool (tt (fits h o))):=by
 refine i5 C (a4g C) rfl ?_
 by_cases hr:o.right
 ·have hb:=a5x hr
  have hk:=b8N hr
  have hof:=W6 hr
  repeat' ((conv=>whnf);first | (with_reducible refine sC (by kernel_rfl) ?_) | ((with_reducible refine sB ?_);first | refine oT ?_ | refine oF ?_ | (refine Or.inr (Or.inr ⟨fun hsp=>?_,fun hsp=>?_⟩) <;>(try simp only [nm,List.length_map,A8,A9] at hsp) <;>try subst hsp)) | ((with_reducible refine p8 ?_);first | refine oT ?_ | refine oF ?_ | (refine Or.inr (Or.inr ⟨fun hsp=>?_,fun hsp=>?_⟩) <;>(try simp only [nm,List.length_map,A8,A9] at hsp) <;>try subst hsp)) | ((with_reducible refine p9 ?_);first | refine oT ?_ | refine oF ?_ | (refine Or.inr (Or.inr ⟨fun hsp=>?_,fun hsp=>?_⟩) <;>(try simp only [nm,List.length_map,A8,A9] at hsp) <;>try subst hsp)) | ((refine sP (by rfl) ?_);first | refine oT ?_ | refine oF ?_ | (refine Or.inr (Or.inr ⟨fun hsp=>?_,fun hsp=>?_⟩) <;>(try simp only [nm,List.length_map,A8,A9] at hsp) <;>try subst hsp)) | refine ⟨_,_,L1 C _ _ _ _ _ _ _ (by assumption),?_⟩ | refine ⟨_,_,a5o C _ (by omega) (by omega),?_⟩ | refine ⟨_,_,a5p C _ _ _ _ _ _ _,?_⟩ | refine sS (e7 (by rfl) (by rfl) (by omega) (L9 (d:=cl0) (by omega) (by omega))) ?_ | fail)
  all_goals (conv=>whnf)
  all_goals (first | (with_reducible refine A3 ?_) | (with_reducible refine y5 ?_) | (refine A4 ?_;try simp (disch:=omega) only [nm,wrap_small])) <;>((try simp (disch:=omega) only [wrap_small]);rw [b7k hr];grind [cellAt])
 ·repeat' ((conv=>whnf);first | (with_reducible refine sC (by kernel_rfl) ?_) | ((with_reducible refine sB ?_);first | refine oT ?_ | refine oF ?_ | (refine Or.inr (Or.inr ⟨fun hsp=>?_,fun hsp=>?_⟩) <;>(try simp only [nm,List.length_map,A8,A9] at hsp) <;>try subst hsp)) | ((with_reducible refine p8 ?_);first | refine oT ?_ | refine oF ?_ | (refine Or.inr (Or.inr ⟨fun hsp=>?_,fun hsp=>?_⟩) <;>(try simp only [nm,List.length_map,A8,A9] at hsp) <;>try subst hsp)) | ((with_reducible refine p9 ?_);first | refine oT ?_ | refine oF ?_ | (refine Or.inr (Or.inr ⟨fun hsp=>?_,fun hsp=>?_⟩) <;>(try simp only [nm,List.length_map,A8,A9] at hsp) <;>try subst hsp)) | ((refine sP (by rfl) ?_);first | refine oT ?_ | refine oF ?_ | (refine Or.inr (Or.inr ⟨fun hsp=>?_,fun hsp=>?_⟩) <;>(try simp only [nm,List.length_map,A8,A9] at hsp) <;>try subst hsp)) | refine ⟨_,_,L1 C _ _ _ _ _ _ _ (by assumption),?_⟩ | refine ⟨_,_,a5o C _ (by omega) (by omega),?_⟩ | refine ⟨_,_,a5p C _ _ _ _ _ _ _,?_⟩ | refine sS (e7 (by rfl) (by rfl) (by omega) (L9 (d:=cl0) (by omega) (by omega))) ?_ | fail)
  all_goals (conv=>whnf)
  all_goals (first | (with_reducible refine A3 ?_) | (with_reducible refine y5 ?_) | (refine A4 ?_;try simp (disch:=omega) only [nm,wrap_small])) <;>(exact fun hf=>hr hf.1)
end Go.Ab.Td
namespace Go.Ab.Td
set_option maxRecDepth 100000
open Go Go.Ab
variable {P:Program}
set_option linter.unusedSimpArgs false
attribute [local irreducible] f0
end Go.Ab.Td
namespace Go.Ab.Td
set_option maxRecDepth 100000
open Go Go.Ab
variable {P:Program}
set_option linter.unusedSimpArgs false
attribute [local irreducible] f0
end Go.Ab.Td

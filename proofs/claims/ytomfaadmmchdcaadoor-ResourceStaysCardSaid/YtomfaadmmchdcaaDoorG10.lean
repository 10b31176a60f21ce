/- A part of the proof: the texts TdC. Under: nothing. -/
import Derived.Test.YtomfaadmmchdcaaDoorG09
import Derived.Test.YtomfaadmmchdcaaDoorG05
set_option linter.unusedVariables false
namespace Go.Ab.Td
set_option maxRecDepth 100000
set_option maxRecDepth 100000
open Go Go.Ab
variable {P:Program}
set_option linter.unusedSimpArgs false
attribute [local irreducible] g8
def c5v:PV:=.agg [.str [110,117,108,108,116,121,112,101],.int .i64 (0),.int .i64 (0),.int .i64 (0),.int .i64 (0),.int .i64 (0),.str [109,97,114,107,116,121,112,101],.int .i64 (0),.int .i64 (0),.int .i64 (0),.int .i64 (0),.int .i64 (0),.str [98,111,111,108,101,97,110,116,121,112,101],.int .i64 (0),.int .i64 (1),.int .i64 (0),.int .i64 (0),.int .i64 (0),.str [105,110,116,101,103,101,114,116,121,112,101],.int .i64 (-2147483648),.int .i64 (2147483647),.int .i64 (0),.int .i64 (0),.int .i64 (0),.str [114,101,97,108,116,121,112,101],.int .i64 (-2147483648),.int .i64 (2147483648),.int .i64 (0),.int .i64 (0),.int .i64 (0),.str [110,97,109,101,116,121,112,101],.int .i64 (0),.int .i64 (0),.int .i64 (0),.int .i64 (100),.int .i64 (0),.str [115,116,114,105,110,103,116,121,112,101],.int .i64 (0),.int .i64 (0),.int .i64 (0),.int .i64 (0),.int .i64 (1),.str [97,114,114,97,121,116,121,112,101],.int .i64 (0),.int .i64 (0),.int .i64 (0),.int .i64 (0),.int .i64 (2),.str [112,97,99,107,101,100,97,114,114,97,121,116,121,112,101],.int .i64 (0),.int .i64 (0),.int .i64 (0),.int .i64 (0),.int .i64 (2),.str [100,105,99,116,116,121,112,101],.int .i64 (0),.int .i64 (0),.int .i64 (0),.int .i64 (0),.int .i64 (3),.str [111,112,101,114,97,116,111,114,116,121,112,101],.int .i64 (0),.int .i64 (0),.int .i64 (1),.int .i64 (100),.int .i64 (0),.str [102,105,108,101,116,121,112,101],.int .i64 (0),.int .i64 (0),.int .i64 (0),.int .i64 (0),.int .i64 (3),.str [115,97,118,101,116,121,112,101],.int .i64 (1),.int .i64 (9223372036854775807),.int .i64 (0),.int .i64 (0),.int .i64 (0)]
def b2n (s:List UInt8) (a b c d e:Int):PV:=.agg [.str s,pI a,pI b,pI c,pI d,pI e]
set_option maxHeartbeats 1000000 in
theorem b1c (C:Laid P):l8 P G M4 [] [] (c5v):=by
 refine j3 C (a3k C) rfl ?_
 repeat' ((conv=>whnf);first | (with_reducible refine sC (by kernel_rfl) ?_) | ((with_reducible refine sB ?_);first | refine oT ?_ | refine oF ?_ | (refine Or.inr (Or.inr ⟨fun hsp=>?_,fun hsp=>?_⟩) <;>(try simp only [nm] at hsp) <;>try subst hsp)) | ((with_reducible refine x4 ?_);first | refine oT ?_ | refine oF ?_ | (refine Or.inr (Or.inr ⟨fun hsp=>?_,fun hsp=>?_⟩) <;>(try simp only [nm] at hsp) <;>try subst hsp)) | ((with_reducible refine x5 ?_);first | refine oT ?_ | refine oF ?_ | (refine Or.inr (Or.inr ⟨fun hsp=>?_,fun hsp=>?_⟩) <;>(try simp only [nm] at hsp) <;>try subst hsp)) | ((refine sP (by rfl) ?_);first | refine oT ?_ | refine oF ?_ | (refine Or.inr (Or.inr ⟨fun hsp=>?_,fun hsp=>?_⟩) <;>(try simp only [nm] at hsp) <;>try subst hsp)) | fail)
 all_goals (conv=>whnf)
 all_goals (exact PV.le.refl _)
set_option maxHeartbeats 1000000 in
theorem a5W (C:Laid P) (s:List UInt8) (a b c d e:Int) (o:Ob):l8 P G x6 [b2n s a b c d e,aO o] [] (.bool (tt (a≤o.n∧o.n≤b))):=by
 refine j3 C (S5 C) rfl ?_
 repeat' ((conv=>whnf);first | (with_reducible refine sC (by kernel_rfl) ?_) | ((with_reducible refine sB ?_);first | refine oT ?_ | refine oF ?_ | (refine Or.inr (Or.inr ⟨fun hsp=>?_,fun hsp=>?_⟩) <;>(try simp only [nm] at hsp) <;>try subst hsp)) | ((with_reducible refine x4 ?_);first | refine oT ?_ | refine oF ?_ | (refine Or.inr (Or.inr ⟨fun hsp=>?_,fun hsp=>?_⟩) <;>(try simp only [nm] at hsp) <;>try subst hsp)) | ((with_reducible refine x5 ?_);first | refine oT ?_ | refine oF ?_ | (refine Or.inr (Or.inr ⟨fun hsp=>?_,fun hsp=>?_⟩) <;>(try simp only [nm] at hsp) <;>try subst hsp)) | ((refine sP (by rfl) ?_);first | refine oT ?_ | refine oF ?_ | (refine Or.inr (Or.inr ⟨fun hsp=>?_,fun hsp=>?_⟩) <;>(try simp only [nm] at hsp) <;>try subst hsp)) | fail)
 all_goals (conv=>whnf)
 all_goals (first | (with_reducible refine K8 ?_) | (with_reducible refine K1 ?_) | (refine K7 ?_;try simp (disch:=omega) only [nm,wrap_small])) <;>(grind)
theorem a4P (C:Laid P) (s:List UInt8) (a b c d e:Int) (o_k:Int) (o_e:Bool) (o_n:Int) (o_s:List UInt8) (o_r:Int) (o_f:Int) (o_l:Int):l8 P G x6 [b2n s a b c d e,.agg [.int .i64 o_k,.bool o_e,.int .i64 o_n,.str o_s,.int .i64 o_r,.int .i64 o_f,.int .i64 o_l]] [] (.bool (tt (a≤o_n∧o_n≤b))):=a5W C s a b c d e (⟨o_k,o_e,o_n,o_s,o_r,o_f,o_l⟩:Ob)
set_option maxHeartbeats 1000000 in
theorem a6E (C:Laid P) (s:List UInt8) (a b c d e:Int) (o:Ob):l8 P G y5 [b2n s a b c d e,aO o] [] (.bool (tt (c≤o.name.length∧o.name.length≤d))):=by
 refine j3 C (W2 C) rfl ?_
 repeat' ((conv=>whnf);first | (with_reducible refine sC (by kernel_rfl) ?_) | ((with_reducible refine sB ?_);first | refine oT ?_ | refine oF ?_ | (refine Or.inr (Or.inr ⟨fun hsp=>?_,fun hsp=>?_⟩) <;>(try simp only [nm] at hsp) <;>try subst hsp)) | ((with_reducible refine x4 ?_);first | refine oT ?_ | refine oF ?_ | (refine Or.inr (Or.inr ⟨fun hsp=>?_,fun hsp=>?_⟩) <;>(try simp only [nm] at hsp) <;>try subst hsp)) | ((with_reducible refine x5 ?_);first | refine oT ?_ | refine oF ?_ | (refine Or.inr (Or.inr ⟨fun hsp=>?_,fun hsp=>?_⟩) <;>(try simp only [nm] at hsp) <;>try subst hsp)) | ((refine sP (by rfl) ?_);first | refine oT ?_ | refine oF ?_ | (refine Or.inr (Or.inr ⟨fun hsp=>?_,fun hsp=>?_⟩) <;>(try simp only [nm] at hsp) <;>try subst hsp)) | fail)
 all_goals (conv=>whnf)
 all_goals (first | (with_reducible refine K8 ?_) | (with_reducible refine K1 ?_) | (refine K7 ?_;try simp (disch:=omega) only [nm,wrap_small])) <;>(grind)
theorem a5B (C:Laid P) (s:List UInt8) (a b c d e:Int) (o_k:Int) (o_e:Bool) (o_n:Int) (o_s:List UInt8) (o_r:Int) (o_f:Int) (o_l:Int):l8 P G y5 [b2n s a b c d e,.agg [.int .i64 o_k,.bool o_e,.int .i64 o_n,.str o_s,.int .i64 o_r,.int .i64 o_f,.int .i64 o_l]] [] (.bool (tt (c≤o_s.length∧o_s.length≤d))):=a6E C s a b c d e (⟨o_k,o_e,o_n,o_s,o_r,o_f,o_l⟩:Ob)
set_option maxHeartbeats 1000000 in
theorem a5A (C:Laid P) (s:List UInt8) (a b c d e:Int) (he:0≤e∧e≤3):l8 P G z9 [b2n s a b c d e] [] (pI (if e=1∨e=2 then 1000 else 0)):=by
 refine j3 C (Q5 C) rfl ?_
 obtain rfl | rfl | rfl | rfl:e=0∨e=1∨e=2∨e=3:=by omega
 repeat' ((conv=>whnf);first | (with_reducible refine sC (by kernel_rfl) ?_) | ((with_reducible refine sB ?_);first | refine oT ?_ | refine oF ?_ | (refine Or.inr (Or.inr ⟨fun hsp=>?_,fun hsp=>?_⟩) <;>(try simp only [nm] at hsp) <;>try subst hsp)) | ((with_reducible refine x4 ?_);first | refine oT ?_ | refine oF ?_ | (refine Or.inr (Or.inr ⟨fun hsp=>?_,fun hsp=>?_⟩) <;>(try simp only [nm] at hsp) <;>try subst hsp)) | ((with_reducible refine x5 ?_);first | refine oT ?_ | refine oF ?_ | (refine Or.inr (Or.inr ⟨fun hsp=>?_,fun hsp=>?_⟩) <;>(try simp only [nm] at hsp) <;>try subst hsp)) | ((refine sP (by rfl) ?_);first | refine oT ?_ | refine oF ?_ | (refine Or.inr (Or.inr ⟨fun hsp=>?_,fun hsp=>?_⟩) <;>(try simp only [nm] at hsp) <;>try subst hsp)) | fail)
 all_goals (conv=>whnf)
 all_goals (exact PV.le.refl _)
set_option maxHeartbeats 1000000 in
theorem a4q (C:Laid P) (s:List UInt8) (a b c d e:Int) (he:0≤e∧e≤3) (o:Ob):l8 P G u6 [b2n s a b c d e,aO o] [] (.bool (tt (if e=0 then o.ref=0∧o.off=0∧o.len=0 else 0≤o.ref∧o.ref≤20000∧0≤o.off∧0≤o.len∧o.off+o.len≤(if e=1∨e=2 then 1000 else 0)))):=by
 refine j3 C (L9 C) rfl ?_
 obtain rfl | rfl | rfl | rfl:e=0∨e=1∨e=2∨e=3:=by omega
 repeat' ((conv=>whnf);first | (with_reducible refine sC (by kernel_rfl) ?_) | ((with_reducible refine sB ?_);first | refine oT ?_ | refine oF ?_ | (refine Or.inr (Or.inr ⟨fun hsp=>?_,fun hsp=>?_⟩) <;>(try simp only [nm] at hsp) <;>try subst hsp)) | ((with_reducible refine x4 ?_);first | refine oT ?_ | refine oF ?_ | (refine Or.inr (Or.inr ⟨fun hsp=>?_,fun hsp=>?_⟩) <;>(try simp only [nm] at hsp) <;>try subst hsp)) | ((with_reducible refine x5 ?_);first | refine oT ?_ | refine oF ?_ | (refine Or.inr (Or.inr ⟨fun hsp=>?_,fun hsp=>?_⟩) <;>(try simp only [nm] at hsp) <;>try subst hsp)) | ((refine sP (by rfl) ?_);first | refine oT ?_ | refine oF ?_ | (refine Or.inr (Or.inr ⟨fun hsp=>?_,fun hsp=>?_⟩) <;>(try simp only [nm] at hsp) <;>try subst hsp)) | refine ⟨_,_,a5A C s a b c d _ (by omega),?_⟩ | fail)
 all_goals (conv=>whnf)
 all_goals (first | (with_reducible refine K8 ?_) | (with_reducible refine K1 ?_) | (refine K7 ?_;try simp (disch:=omega) only [nm,wrap_small])) <;>((try simp (disch:=omega) only [wrap_small]);grind [wrap_small])
theorem a3q (C:Laid P) (s:List UInt8) (a b c d e:Int) (he:0≤e∧e≤3) (o_k:Int) (o_e:Bool) (o_n:Int) (o_s:List UInt8) (o_r:Int) (o_f:Int) (o_l:Int):l8 P G u6 [b2n s a b c d e,.agg [.int .i64 o_k,.bool o_e,.int .i64 o_n,.str o_s,.int .i64 o_r,.int .i64 o_f,.int .i64 o_l]] [] (.bool (tt (if e=0 then o_r=0∧o_f=0∧o_l=0 else 0≤o_r∧o_r≤20000∧0≤o_f∧0≤o_l∧o_f+o_l≤(if e=1∨e=2 then 1000 else 0)))):=a4q C s a b c d e he (⟨o_k,o_e,o_n,o_s,o_r,o_f,o_l⟩:Ob)
set_option maxHeartbeats 1000000 in
theorem b0Y (C:Laid P) (o:Ob) (ho:o.n<9223372036854775808):l8 P G u5 [aO o] [] (pI o.ck):=by
 refine j3 C (a3g C) rfl ?_
 obtain ⟨k,e,n,s,r,f,l⟩:=o
 simp only at ho
 repeat' ((conv=>whnf);first | (with_reducible refine sC (by kernel_rfl) ?_) | ((with_reducible refine sB ?_);first | refine oT ?_ | refine oF ?_ | (refine Or.inr (Or.inr ⟨fun hsp=>?_,fun hsp=>?_⟩) <;>(try simp only [nm] at hsp) <;>try subst hsp)) | ((with_reducible refine x4 ?_);first | refine oT ?_ | refine oF ?_ | (refine Or.inr (Or.inr ⟨fun hsp=>?_,fun hsp=>?_⟩) <;>(try simp only [nm] at hsp) <;>try subst hsp)) | ((with_reducible refine x5 ?_);first | refine oT ?_ | refine oF ?_ | (refine Or.inr (Or.inr ⟨fun hsp=>?_,fun hsp=>?_⟩) <;>(try simp only [nm] at hsp) <;>try subst hsp)) | ((refine sP (by rfl) ?_);first | refine oT ?_ | refine oF ?_ | (refine Or.inr (Or.inr ⟨fun hsp=>?_,fun hsp=>?_⟩) <;>(try simp only [nm] at hsp) <;>try subst hsp)) | refine ⟨_,_,b1c C,?_⟩ | refine ⟨_,_,a4P C _ _ _ _ _ _ _ _ _ _ _ _ _,?_⟩ | refine ⟨_,_,a5B C _ _ _ _ _ _ _ _ _ _ _ _ _,?_⟩ | refine ⟨_,_,a3q C _ _ _ _ _ _ (by omega) _ _ _ _ _ _ _,?_⟩ | (intro X hX hW) | refine hX _ ?_ | ((refine b8B k (by omega) (by omega) ?_ ?_ ?_ ?_ ?_ ?_ ?_ ?_ ?_ ?_ ?_ ?_ ?_) <;>(intro hk;subst hk)) | fail)
 all_goals (conv=>whnf)
 all_goals (refine w8 ?_;simp only [Ob.ck];first | rw [if_pos (by grind [Ob.right,Ob.blank])] | rw [if_neg (by grind [Ob.right,Ob.blank])])
theorem E5 (C:Laid P) (o_k:Int) (o_e:Bool) (o_n:Int) (o_s:List UInt8) (o_r:Int) (o_f:Int) (o_l:Int) (ho:o_n<9223372036854775808):l8 P G u5 [.agg [.int .i64 o_k,.bool o_e,.int .i64 o_n,.str o_s,.int .i64 o_r,.int .i64 o_f,.int .i64 o_l]] [] (pI (⟨o_k,o_e,o_n,o_s,o_r,o_f,o_l⟩:Ob).ck):=b0Y C (⟨o_k,o_e,o_n,o_s,o_r,o_f,o_l⟩:Ob) ho
end Go.Ab.Td

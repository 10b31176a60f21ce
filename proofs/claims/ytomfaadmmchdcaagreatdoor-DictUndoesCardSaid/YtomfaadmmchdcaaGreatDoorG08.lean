/- A part of the proof: the texts TdC. Under: nothing. -/
import Derived.Test.YtomfaadmmchdcaaGreatDoorG07
import Derived.Test.YtomfaadmmchdcaaGreatDoorG05
set_option linter.unusedVariables false
namespace Go.Ab.Td
set_option maxRecDepth 100000
set_option maxRecDepth 100000
open Go Go.Ab
variable {P:Program}
set_option linter.unusedSimpArgs false
attribute [local irreducible] e9
def c4B:PV:=.agg [.str [110,117,108,108,116,121,112,101],.int .i64 (0),.int .i64 (0),.int .i64 (0),.int .i64 (0),.int .i64 (0),.str [109,97,114,107,116,121,112,101],.int .i64 (0),.int .i64 (0),.int .i64 (0),.int .i64 (0),.int .i64 (0),.str [98,111,111,108,101,97,110,116,121,112,101],.int .i64 (0),.int .i64 (1),.int .i64 (0),.int .i64 (0),.int .i64 (0),.str [105,110,116,101,103,101,114,116,121,112,101],.int .i64 (-2147483648),.int .i64 (2147483647),.int .i64 (0),.int .i64 (0),.int .i64 (0),.str [114,101,97,108,116,121,112,101],.int .i64 (-2147483648),.int .i64 (2147483648),.int .i64 (0),.int .i64 (0),.int .i64 (0),.str [110,97,109,101,116,121,112,101],.int .i64 (0),.int .i64 (0),.int .i64 (0),.int .i64 (100),.int .i64 (0),.str [115,116,114,105,110,103,116,121,112,101],.int .i64 (0),.int .i64 (0),.int .i64 (0),.int .i64 (0),.int .i64 (1),.str [97,114,114,97,121,116,121,112,101],.int .i64 (0),.int .i64 (0),.int .i64 (0),.int .i64 (0),.int .i64 (2),.str [112,97,99,107,101,100,97,114,114,97,121,116,121,112,101],.int .i64 (0),.int .i64 (0),.int .i64 (0),.int .i64 (0),.int .i64 (2),.str [100,105,99,116,116,121,112,101],.int .i64 (0),.int .i64 (0),.int .i64 (0),.int .i64 (0),.int .i64 (3),.str [111,112,101,114,97,116,111,114,116,121,112,101],.int .i64 (0),.int .i64 (0),.int .i64 (1),.int .i64 (100),.int .i64 (0),.str [102,105,108,101,116,121,112,101],.int .i64 (0),.int .i64 (0),.int .i64 (0),.int .i64 (0),.int .i64 (3),.str [115,97,118,101,116,121,112,101],.int .i64 (1),.int .i64 (9223372036854775807),.int .i64 (0),.int .i64 (0),.int .i64 (0)]
def b1X (s:List UInt8) (a b c d e:Int):PV:=.agg [.str s,pI a,pI b,pI c,pI d,pI e]
set_option maxHeartbeats 1000000 in
theorem b1d (C:Laid P):l3 P G L7 [] [] (c4B):=by
 refine k8 C (a3o C) rfl ?_
 repeat' ((conv=>whnf);first | (with_reducible refine sC (by kernel_rfl) ?_) | ((with_reducible refine sB ?_);first | refine oT ?_ | refine oF ?_ | (refine Or.inr (Or.inr ⟨fun hsp=>?_,fun hsp=>?_⟩) <;>(try simp only [nm] at hsp) <;>try subst hsp)) | ((with_reducible refine z7 ?_);first | refine oT ?_ | refine oF ?_ | (refine Or.inr (Or.inr ⟨fun hsp=>?_,fun hsp=>?_⟩) <;>(try simp only [nm] at hsp) <;>try subst hsp)) | ((with_reducible refine z8 ?_);first | refine oT ?_ | refine oF ?_ | (refine Or.inr (Or.inr ⟨fun hsp=>?_,fun hsp=>?_⟩) <;>(try simp only [nm] at hsp) <;>try subst hsp)) | ((refine sP (by rfl) ?_);first | refine oT ?_ | refine oF ?_ | (refine Or.inr (Or.inr ⟨fun hsp=>?_,fun hsp=>?_⟩) <;>(try simp only [nm] at hsp) <;>try subst hsp)) | fail)
 all_goals (conv=>whnf)
 all_goals (exact PV.le.refl _)
set_option maxHeartbeats 1000000 in
theorem a6e (C:Laid P) (s:List UInt8) (a b c d e:Int) (o:Ob):l3 P G u2 [b1X s a b c d e,aO o] [] (.bool (tt (a≤o.n∧o.n≤b))):=by
 refine k8 C (T1 C) rfl ?_
 repeat' ((conv=>whnf);first | (with_reducible refine sC (by kernel_rfl) ?_) | ((with_reducible refine sB ?_);first | refine oT ?_ | refine oF ?_ | (refine Or.inr (Or.inr ⟨fun hsp=>?_,fun hsp=>?_⟩) <;>(try simp only [nm] at hsp) <;>try subst hsp)) | ((with_reducible refine z7 ?_);first | refine oT ?_ | refine oF ?_ | (refine Or.inr (Or.inr ⟨fun hsp=>?_,fun hsp=>?_⟩) <;>(try simp only [nm] at hsp) <;>try subst hsp)) | ((with_reducible refine z8 ?_);first | refine oT ?_ | refine oF ?_ | (refine Or.inr (Or.inr ⟨fun hsp=>?_,fun hsp=>?_⟩) <;>(try simp only [nm] at hsp) <;>try subst hsp)) | ((refine sP (by rfl) ?_);first | refine oT ?_ | refine oF ?_ | (refine Or.inr (Or.inr ⟨fun hsp=>?_,fun hsp=>?_⟩) <;>(try simp only [nm] at hsp) <;>try subst hsp)) | fail)
 all_goals (conv=>whnf)
 all_goals (first | (with_reducible refine A9 ?_) | (with_reducible refine z9 ?_) | (refine A8 ?_;try simp (disch:=omega) only [nm,wrap_small])) <;>(grind)
theorem a4Z (C:Laid P) (s:List UInt8) (a b c d e:Int) (o_k:Int) (o_e:Bool) (o_n:Int) (o_s:List UInt8) (o_r:Int) (o_f:Int) (o_l:Int):l3 P G u2 [b1X s a b c d e,.agg [.int .i64 o_k,.bool o_e,.int .i64 o_n,.str o_s,.int .i64 o_r,.int .i64 o_f,.int .i64 o_l]] [] (.bool (tt (a≤o_n∧o_n≤b))):=a6e C s a b c d e (⟨o_k,o_e,o_n,o_s,o_r,o_f,o_l⟩:Ob)
set_option maxHeartbeats 1000000 in
theorem a6K (C:Laid P) (s:List UInt8) (a b c d e:Int) (o:Ob):l3 P G v7 [b1X s a b c d e,aO o] [] (.bool (tt (c≤o.name.length∧o.name.length≤d))):=by
 refine k8 C (W8 C) rfl ?_
 repeat' ((conv=>whnf);first | (with_reducible refine sC (by kernel_rfl) ?_) | ((with_reducible refine sB ?_);first | refine oT ?_ | refine oF ?_ | (refine Or.inr (Or.inr ⟨fun hsp=>?_,fun hsp=>?_⟩) <;>(try simp only [nm] at hsp) <;>try subst hsp)) | ((with_reducible refine z7 ?_);first | refine oT ?_ | refine oF ?_ | (refine Or.inr (Or.inr ⟨fun hsp=>?_,fun hsp=>?_⟩) <;>(try simp only [nm] at hsp) <;>try subst hsp)) | ((with_reducible refine z8 ?_);first | refine oT ?_ | refine oF ?_ | (refine Or.inr (Or.inr ⟨fun hsp=>?_,fun hsp=>?_⟩) <;>(try simp only [nm] at hsp) <;>try subst hsp)) | ((refine sP (by rfl) ?_);first | refine oT ?_ | refine oF ?_ | (refine Or.inr (Or.inr ⟨fun hsp=>?_,fun hsp=>?_⟩) <;>(try simp only [nm] at hsp) <;>try subst hsp)) | fail)
 all_goals (conv=>whnf)
 all_goals (first | (with_reducible refine A9 ?_) | (with_reducible refine z9 ?_) | (refine A8 ?_;try simp (disch:=omega) only [nm,wrap_small])) <;>(grind)
theorem a5L (C:Laid P) (s:List UInt8) (a b c d e:Int) (o_k:Int) (o_e:Bool) (o_n:Int) (o_s:List UInt8) (o_r:Int) (o_f:Int) (o_l:Int):l3 P G v7 [b1X s a b c d e,.agg [.int .i64 o_k,.bool o_e,.int .i64 o_n,.str o_s,.int .i64 o_r,.int .i64 o_f,.int .i64 o_l]] [] (.bool (tt (c≤o_s.length∧o_s.length≤d))):=a6K C s a b c d e (⟨o_k,o_e,o_n,o_s,o_r,o_f,o_l⟩:Ob)
set_option maxHeartbeats 1000000 in
theorem a5K (C:Laid P) (s:List UInt8) (a b c d e:Int) (he:0≤e∧e≤3):l3 P G x1 [b1X s a b c d e] [] (pI (if e=1∨e=2 then 1000 else 0)):=by
 refine k8 C (Q4 C) rfl ?_
 obtain rfl | rfl | rfl | rfl:e=0∨e=1∨e=2∨e=3:=by omega
 repeat' ((conv=>whnf);first | (with_reducible refine sC (by kernel_rfl) ?_) | ((with_reducible refine sB ?_);first | refine oT ?_ | refine oF ?_ | (refine Or.inr (Or.inr ⟨fun hsp=>?_,fun hsp=>?_⟩) <;>(try simp only [nm] at hsp) <;>try subst hsp)) | ((with_reducible refine z7 ?_);first | refine oT ?_ | refine oF ?_ | (refine Or.inr (Or.inr ⟨fun hsp=>?_,fun hsp=>?_⟩) <;>(try simp only [nm] at hsp) <;>try subst hsp)) | ((with_reducible refine z8 ?_);first | refine oT ?_ | refine oF ?_ | (refine Or.inr (Or.inr ⟨fun hsp=>?_,fun hsp=>?_⟩) <;>(try simp only [nm] at hsp) <;>try subst hsp)) | ((refine sP (by rfl) ?_);first | refine oT ?_ | refine oF ?_ | (refine Or.inr (Or.inr ⟨fun hsp=>?_,fun hsp=>?_⟩) <;>(try simp only [nm] at hsp) <;>try subst hsp)) | fail)
 all_goals (conv=>whnf)
 all_goals (exact PV.le.refl _)
set_option maxHeartbeats 1000000 in
theorem a4B (C:Laid P) (s:List UInt8) (a b c d e:Int) (he:0≤e∧e≤3) (o:Ob):l3 P G o4 [b1X s a b c d e,aO o] [] (.bool (tt (if e=0 then o.ref=0∧o.off=0∧o.len=0 else 0≤o.ref∧o.ref≤20000∧0≤o.off∧0≤o.len∧o.off+o.len≤(if e=1∨e=2 then 1000 else 0)))):=by
 refine k8 C (L1 C) rfl ?_
 obtain rfl | rfl | rfl | rfl:e=0∨e=1∨e=2∨e=3:=by omega
 repeat' ((conv=>whnf);first | (with_reducible refine sC (by kernel_rfl) ?_) | ((with_reducible refine sB ?_);first | refine oT ?_ | refine oF ?_ | (refine Or.inr (Or.inr ⟨fun hsp=>?_,fun hsp=>?_⟩) <;>(try simp only [nm] at hsp) <;>try subst hsp)) | ((with_reducible refine z7 ?_);first | refine oT ?_ | refine oF ?_ | (refine Or.inr (Or.inr ⟨fun hsp=>?_,fun hsp=>?_⟩) <;>(try simp only [nm] at hsp) <;>try subst hsp)) | ((with_reducible refine z8 ?_);first | refine oT ?_ | refine oF ?_ | (refine Or.inr (Or.inr ⟨fun hsp=>?_,fun hsp=>?_⟩) <;>(try simp only [nm] at hsp) <;>try subst hsp)) | ((refine sP (by rfl) ?_);first | refine oT ?_ | refine oF ?_ | (refine Or.inr (Or.inr ⟨fun hsp=>?_,fun hsp=>?_⟩) <;>(try simp only [nm] at hsp) <;>try subst hsp)) | refine ⟨_,_,a5K C s a b c d _ (by omega),?_⟩ | fail)
 all_goals (conv=>whnf)
 all_goals (first | (with_reducible refine A9 ?_) | (with_reducible refine z9 ?_) | (refine A8 ?_;try simp (disch:=omega) only [nm,wrap_small])) <;>((try simp (disch:=omega) only [wrap_small]);grind [wrap_small])
theorem a3u (C:Laid P) (s:List UInt8) (a b c d e:Int) (he:0≤e∧e≤3) (o_k:Int) (o_e:Bool) (o_n:Int) (o_s:List UInt8) (o_r:Int) (o_f:Int) (o_l:Int):l3 P G o4 [b1X s a b c d e,.agg [.int .i64 o_k,.bool o_e,.int .i64 o_n,.str o_s,.int .i64 o_r,.int .i64 o_f,.int .i64 o_l]] [] (.bool (tt (if e=0 then o_r=0∧o_f=0∧o_l=0 else 0≤o_r∧o_r≤20000∧0≤o_f∧0≤o_l∧o_f+o_l≤(if e=1∨e=2 then 1000 else 0)))):=a4B C s a b c d e he (⟨o_k,o_e,o_n,o_s,o_r,o_f,o_l⟩:Ob)
set_option maxHeartbeats 1000000 in
theorem b0Z (C:Laid P) (o:Ob) (ho:o.n<9223372036854775808):l3 P G u1 [aO o] [] (pI o.ck):=by
 refine k8 C (a3k C) rfl ?_
 obtain ⟨k,e,n,s,r,f,l⟩:=o
 simp only at ho
 repeat' ((conv=>whnf);first | (with_reducible refine sC (by kernel_rfl) ?_) | ((with_reducible refine sB ?_);first | refine oT ?_ | refine oF ?_ | (refine Or.inr (Or.inr ⟨fun hsp=>?_,fun hsp=>?_⟩) <;>(try simp only [nm] at hsp) <;>try subst hsp)) | ((with_reducible refine z7 ?_);first | refine oT ?_ | refine oF ?_ | (refine Or.inr (Or.inr ⟨fun hsp=>?_,fun hsp=>?_⟩) <;>(try simp only [nm] at hsp) <;>try subst hsp)) | ((with_reducible refine z8 ?_);first | refine oT ?_ | refine oF ?_ | (refine Or.inr (Or.inr ⟨fun hsp=>?_,fun hsp=>?_⟩) <;>(try simp only [nm] at hsp) <;>try subst hsp)) | ((refine sP (by rfl) ?_);first | refine oT ?_ | refine oF ?_ | (refine Or.inr (Or.inr ⟨fun hsp=>?_,fun hsp=>?_⟩) <;>(try simp only [nm] at hsp) <;>try subst hsp)) | refine ⟨_,_,b1d C,?_⟩ | refine ⟨_,_,a4Z C _ _ _ _ _ _ _ _ _ _ _ _ _,?_⟩ | refine ⟨_,_,a5L C _ _ _ _ _ _ _ _ _ _ _ _ _,?_⟩ | refine ⟨_,_,a3u C _ _ _ _ _ _ (by omega) _ _ _ _ _ _ _,?_⟩ | (intro X hX hW) | refine hX _ ?_ | ((refine b7L k (by omega) (by omega) ?_ ?_ ?_ ?_ ?_ ?_ ?_ ?_ ?_ ?_ ?_ ?_ ?_) <;>(intro hk;subst hk)) | fail)
 all_goals (conv=>whnf)
 all_goals (refine l0 ?_;simp only [Ob.ck];first | rw [if_pos (by grind [Ob.right,Ob.blank])] | rw [if_neg (by grind [Ob.right,Ob.blank])])
theorem D1 (C:Laid P) (o_k:Int) (o_e:Bool) (o_n:Int) (o_s:List UInt8) (o_r:Int) (o_f:Int) (o_l:Int) (ho:o_n<9223372036854775808):l3 P G u1 [.agg [.int .i64 o_k,.bool o_e,.int .i64 o_n,.str o_s,.int .i64 o_r,.int .i64 o_f,.int .i64 o_l]] [] (pI (⟨o_k,o_e,o_n,o_s,o_r,o_f,o_l⟩:Ob).ck):=b0Z C (⟨o_k,o_e,o_n,o_s,o_r,o_f,o_l⟩:Ob) ho
end Go.Ab.Td

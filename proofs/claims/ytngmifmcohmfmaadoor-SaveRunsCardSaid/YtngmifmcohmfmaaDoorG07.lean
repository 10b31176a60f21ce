/- A part of the proof: the texts TdBase, TdA, TdB, TdC. Under: nothing. -/
import Derived.Test.YtngmifmcohmfmaaDoorG06
import Derived.Test.YtngmifmcohmfmaaDoorG05
import Derived.KernelRfl
namespace Go.Ab.Td
set_option maxRecDepth 100000
set_option maxRecDepth 100000
open Go Go.Ab
def b0u:List PV:=[.str [97],.str [98],.str [97,100,100],.str [120],.str [102,111,111],.str [],.str [112,111,112],.str [70,111,110,116]]
def G:Gl:=⟨fun i=>match i with | 0=>some b0u | _=>none,fun _=>none⟩
def noX:Nat→Option a3n:=fun _=>none
def noT:Nat→Option n4:=fun _=>none
theorem i5 {P:Program} (C:Laid P) {g:Nat} {c:n4} {ps:List PV} {r:PV} (hk:b9 P g c=true) (hl:ps.length=c.nparams) (h:fnV G (j7 P G) noX noT noT 0 c ps r):j7 P G g ps [] r:=
 b0w C.mixed hk (fun _ _ h=>by cases h) (fun _ _ h=>by cases h) (fun _ _ h=>by cases h) hl h
end Go.Ab.Td
namespace Go.Ab.Td
set_option maxRecDepth 100000
set_option maxRecDepth 100000
open Go Go.Ab
variable {P:Program}
set_option linter.unusedSimpArgs false
attribute [local irreducible] f0
set_option maxHeartbeats 1000000 in
theorem a8D (C:Laid P) (o:Ob):j7 P G L0 [aO o] [] (.bool (tt o.comp)):=by
 refine i5 C (a9r C) rfl ?_
 repeat' ((conv=>whnf);first | (with_reducible refine sC (by kernel_rfl) ?_) | ((with_reducible refine sB ?_);first | refine oT ?_ | refine oF ?_ | (refine Or.inr (Or.inr ⟨fun hsp=>?_,fun hsp=>?_⟩) <;>(try simp only [nm] at hsp) <;>try subst hsp)) | ((with_reducible refine o8 ?_);first | refine oT ?_ | refine oF ?_ | (refine Or.inr (Or.inr ⟨fun hsp=>?_,fun hsp=>?_⟩) <;>(try simp only [nm] at hsp) <;>try subst hsp)) | ((with_reducible refine o7 ?_);first | refine oT ?_ | refine oF ?_ | (refine Or.inr (Or.inr ⟨fun hsp=>?_,fun hsp=>?_⟩) <;>(try simp only [nm] at hsp) <;>try subst hsp)) | ((refine sP (by rfl) ?_);first | refine oT ?_ | refine oF ?_ | (refine Or.inr (Or.inr ⟨fun hsp=>?_,fun hsp=>?_⟩) <;>(try simp only [nm] at hsp) <;>try subst hsp)) | fail)
 all_goals (conv=>whnf)
 all_goals (first | (with_reducible refine z6 ?_) | (with_reducible refine x6 ?_) | (refine z9 ?_;try simp (disch:=omega) only [nm,wrap_small])) <;>(unfold Ob.comp;omega)
theorem a6I (C:Laid P) (o_k:Int) (o_e:Bool) (o_n:Int) (o_s:List UInt8) (o_r:Int) (o_f:Int) (o_l:Int):j7 P G L0 [.agg [.int .i64 o_k,.bool o_e,.int .i64 o_n,.str o_s,.int .i64 o_r,.int .i64 o_f,.int .i64 o_l]] [] (.bool (tt (⟨o_k,o_e,o_n,o_s,o_r,o_f,o_l⟩:Ob).comp)):=a8D C (⟨o_k,o_e,o_n,o_s,o_r,o_f,o_l⟩:Ob)
end Go.Ab.Td
namespace Go.Ab.Td
set_option maxRecDepth 100000
set_option maxRecDepth 100000
open Go Go.Ab
variable {P:Program}
set_option linter.unusedSimpArgs false
attribute [local irreducible] f0
set_option maxHeartbeats 1000000 in
theorem a7n (C:Laid P) (l:List Ob) (o:Ob) (hl:l.length<2 ^ 62):j7 P G a1N [.sl 7 (List.map i6 l),aO o] [] (pI (i9 o 0 l)):=by
 refine i5 C (b3K C) rfl ?_
 repeat' ((conv=>whnf);first | (with_reducible refine sC (by kernel_rfl) ?_) | ((with_reducible refine sB ?_);first | refine oT ?_ | refine oF ?_ | (refine Or.inr (Or.inr ⟨fun hsp=>?_,fun hsp=>?_⟩) <;>(try simp only [nm] at hsp) <;>try subst hsp)) | ((with_reducible refine o8 ?_);first | refine oT ?_ | refine oF ?_ | (refine Or.inr (Or.inr ⟨fun hsp=>?_,fun hsp=>?_⟩) <;>(try simp only [nm] at hsp) <;>try subst hsp)) | ((with_reducible refine o7 ?_);first | refine oT ?_ | refine oF ?_ | (refine Or.inr (Or.inr ⟨fun hsp=>?_,fun hsp=>?_⟩) <;>(try simp only [nm] at hsp) <;>try subst hsp)) | ((refine sP (by rfl) ?_);first | refine oT ?_ | refine oF ?_ | (refine Or.inr (Or.inr ⟨fun hsp=>?_,fun hsp=>?_⟩) <;>(try simp only [nm] at hsp) <;>try subst hsp)) | fail)
 all_goals (conv=>whnf)
 intro X hX hW
 refine a2x hX (fun st (a:Nat)=>st.upd [(5,.pv (pI (a:Int)))] []) (fun a m=>a+m=l.length∧(i9 o 0 l=i9 o a (l.drop a))) 0 l.length (by (conv=>whnf);first | done | rfl) (by simp) ?_
 intro m i ih hI
 rcases a0E l i with ⟨x,hlt,hx⟩ | hge
 ·have hrow:=y2 (f:=i6) hx
  have hd:=Z7 hx
  have hI2:=hI.2
  rw [hd] at hI2
  simp only [i9] at hI2
  repeat' ((conv=>whnf);first | (with_reducible refine sC (by kernel_rfl) ?_) | ((with_reducible refine sB ?_);first | refine oT ?_ | refine oF ?_ | (refine Or.inr (Or.inr ⟨fun hsp=>?_,fun hsp=>?_⟩) <;>(try simp only [nm,List.length_map] at hsp) <;>try subst hsp)) | ((with_reducible refine o8 ?_);first | refine oT ?_ | refine oF ?_ | (refine Or.inr (Or.inr ⟨fun hsp=>?_,fun hsp=>?_⟩) <;>(try simp only [nm,List.length_map] at hsp) <;>try subst hsp)) | ((with_reducible refine o7 ?_);first | refine oT ?_ | refine oF ?_ | (refine Or.inr (Or.inr ⟨fun hsp=>?_,fun hsp=>?_⟩) <;>(try simp only [nm,List.length_map] at hsp) <;>try subst hsp)) | ((refine sP (by rfl) ?_);first | refine oT ?_ | refine oF ?_ | (refine Or.inr (Or.inr ⟨fun hsp=>?_,fun hsp=>?_⟩) <;>(try simp only [nm,List.length_map] at hsp) <;>try subst hsp)) | refine sS (e7 (by rfl) (by rfl) (by omega) hrow) ?_ | fail)
  all_goals (conv=>whnf)
  all_goals first
   | (refine ih (m - 1) (i+1) _ (by omega) ⟨by (try dsimp only);omega,?_⟩ (by (conv=>whnf);first | done | rfl | (simp (disch:=omega) only [p9])))
   | (with_reducible first | refine k7 ?_ | refine z6 ?_ | refine x6 ?_)
   | (refine z9 ?_;simp only [nm])
   | refine le_of_eq ?_
  all_goals grind
 ·have hd:l.drop i=[]:=List.drop_eq_nil_of_le hge
  have hI2:=hI.2
  rw [hd] at hI2
  simp only [i9] at hI2
  repeat' ((conv=>whnf);first | (with_reducible refine sC (by kernel_rfl) ?_) | ((with_reducible refine sB ?_);first | refine oT ?_ | refine oF ?_ | (refine Or.inr (Or.inr ⟨fun hsp=>?_,fun hsp=>?_⟩) <;>(try simp only [nm,List.length_map] at hsp) <;>try subst hsp)) | ((with_reducible refine o8 ?_);first | refine oT ?_ | refine oF ?_ | (refine Or.inr (Or.inr ⟨fun hsp=>?_,fun hsp=>?_⟩) <;>(try simp only [nm,List.length_map] at hsp) <;>try subst hsp)) | ((with_reducible refine o7 ?_);first | refine oT ?_ | refine oF ?_ | (refine Or.inr (Or.inr ⟨fun hsp=>?_,fun hsp=>?_⟩) <;>(try simp only [nm,List.length_map] at hsp) <;>try subst hsp)) | ((refine sP (by rfl) ?_);first | refine oT ?_ | refine oF ?_ | (refine Or.inr (Or.inr ⟨fun hsp=>?_,fun hsp=>?_⟩) <;>(try simp only [nm,List.length_map] at hsp) <;>try subst hsp)) | fail)
  all_goals (conv=>whnf)
  all_goals first
   | (with_reducible first | refine k7 ?_ | refine z6 ?_ | refine x6 ?_)
   | (refine z9 ?_;simp only [nm])
   | refine le_of_eq ?_
  all_goals grind
set_option maxHeartbeats 1000000 in
theorem a7G (C:Laid P) (l:List Ob) (o:Ob) (hl:l.length<2 ^ 62):j7 P G s7 [.sl 7 (List.map i6 l),aO o] [] (pI (i9 o 0 l)):=by
 refine i5 C (a0m C) rfl ?_
 repeat' ((conv=>whnf);first | (with_reducible refine sC (by kernel_rfl) ?_) | ((with_reducible refine sB ?_);first | refine oT ?_ | refine oF ?_ | (refine Or.inr (Or.inr ⟨fun hsp=>?_,fun hsp=>?_⟩) <;>(try simp only [nm] at hsp) <;>try subst hsp)) | ((with_reducible refine o8 ?_);first | refine oT ?_ | refine oF ?_ | (refine Or.inr (Or.inr ⟨fun hsp=>?_,fun hsp=>?_⟩) <;>(try simp only [nm] at hsp) <;>try subst hsp)) | ((with_reducible refine o7 ?_);first | refine oT ?_ | refine oF ?_ | (refine Or.inr (Or.inr ⟨fun hsp=>?_,fun hsp=>?_⟩) <;>(try simp only [nm] at hsp) <;>try subst hsp)) | ((refine sP (by rfl) ?_);first | refine oT ?_ | refine oF ?_ | (refine Or.inr (Or.inr ⟨fun hsp=>?_,fun hsp=>?_⟩) <;>(try simp only [nm] at hsp) <;>try subst hsp)) | fail)
 all_goals (conv=>whnf)
 intro X hX hW
 refine a2x hX (fun st (a:Nat)=>st.upd [(8,.pv (pI (a:Int)))] []) (fun a m=>a+m=l.length∧(i9 o 0 l=i9 o a (l.drop a))) 0 l.length (by (conv=>whnf);first | done | rfl) (by simp) ?_
 intro m i ih hI
 rcases a0E l i with ⟨x,hlt,hx⟩ | hge
 ·have hrow:=y2 (f:=i6) hx
  have hd:=Z7 hx
  have hI2:=hI.2
  rw [hd] at hI2
  simp only [i9] at hI2
  repeat' ((conv=>whnf);first | (with_reducible refine sC (by kernel_rfl) ?_) | ((with_reducible refine sB ?_);first | refine oT ?_ | refine oF ?_ | (refine Or.inr (Or.inr ⟨fun hsp=>?_,fun hsp=>?_⟩) <;>(try simp only [nm,List.length_map] at hsp) <;>try subst hsp)) | ((with_reducible refine o8 ?_);first | refine oT ?_ | refine oF ?_ | (refine Or.inr (Or.inr ⟨fun hsp=>?_,fun hsp=>?_⟩) <;>(try simp only [nm,List.length_map] at hsp) <;>try subst hsp)) | ((with_reducible refine o7 ?_);first | refine oT ?_ | refine oF ?_ | (refine Or.inr (Or.inr ⟨fun hsp=>?_,fun hsp=>?_⟩) <;>(try simp only [nm,List.length_map] at hsp) <;>try subst hsp)) | ((refine sP (by rfl) ?_);first | refine oT ?_ | refine oF ?_ | (refine Or.inr (Or.inr ⟨fun hsp=>?_,fun hsp=>?_⟩) <;>(try simp only [nm,List.length_map] at hsp) <;>try subst hsp)) | refine sS (e7 (by rfl) (by rfl) (by omega) hrow) ?_ | fail)
  all_goals (conv=>whnf)
  all_goals first
   | (refine ih (m - 1) (i+1) _ (by omega) ⟨by (try dsimp only);omega,?_⟩ (by (conv=>whnf);first | done | rfl | (simp (disch:=omega) only [p9])))
   | (with_reducible first | refine k7 ?_ | refine z6 ?_ | refine x6 ?_)
   | (refine z9 ?_;simp only [nm])
   | refine le_of_eq ?_
  all_goals grind
 ·have hd:l.drop i=[]:=List.drop_eq_nil_of_le hge
  have hI2:=hI.2
  rw [hd] at hI2
  simp only [i9] at hI2
  repeat' ((conv=>whnf);first | (with_reducible refine sC (by kernel_rfl) ?_) | ((with_reducible refine sB ?_);first | refine oT ?_ | refine oF ?_ | (refine Or.inr (Or.inr ⟨fun hsp=>?_,fun hsp=>?_⟩) <;>(try simp only [nm,List.length_map] at hsp) <;>try subst hsp)) | ((with_reducible refine o8 ?_);first | refine oT ?_ | refine oF ?_ | (refine Or.inr (Or.inr ⟨fun hsp=>?_,fun hsp=>?_⟩) <;>(try simp only [nm,List.length_map] at hsp) <;>try subst hsp)) | ((with_reducible refine o7 ?_);first | refine oT ?_ | refine oF ?_ | (refine Or.inr (Or.inr ⟨fun hsp=>?_,fun hsp=>?_⟩) <;>(try simp only [nm,List.length_map] at hsp) <;>try subst hsp)) | ((refine sP (by rfl) ?_);first | refine oT ?_ | refine oF ?_ | (refine Or.inr (Or.inr ⟨fun hsp=>?_,fun hsp=>?_⟩) <;>(try simp only [nm,List.length_map] at hsp) <;>try subst hsp)) | fail)
  all_goals (conv=>whnf)
  all_goals first
   | (with_reducible first | refine k7 ?_ | refine z6 ?_ | refine x6 ?_)
   | (refine z9 ?_;simp only [nm])
   | refine le_of_eq ?_
  all_goals grind
set_option maxHeartbeats 1000000 in
theorem b6g (C:Laid P) (c:Cl):j7 P G N8 [aC c] [] (pI c.size):=by
 refine i5 C (a6K C) rfl ?_
 repeat' ((conv=>whnf);first | (with_reducible refine sC (by kernel_rfl) ?_) | ((with_reducible refine sB ?_);first | refine oT ?_ | refine oF ?_ | (refine Or.inr (Or.inr ⟨fun hsp=>?_,fun hsp=>?_⟩) <;>(try simp only [nm] at hsp) <;>try subst hsp)) | ((with_reducible refine o8 ?_);first | refine oT ?_ | refine oF ?_ | (refine Or.inr (Or.inr ⟨fun hsp=>?_,fun hsp=>?_⟩) <;>(try simp only [nm] at hsp) <;>try subst hsp)) | ((with_reducible refine o7 ?_);first | refine oT ?_ | refine oF ?_ | (refine Or.inr (Or.inr ⟨fun hsp=>?_,fun hsp=>?_⟩) <;>(try simp only [nm] at hsp) <;>try subst hsp)) | ((refine sP (by rfl) ?_);first | refine oT ?_ | refine oF ?_ | (refine Or.inr (Or.inr ⟨fun hsp=>?_,fun hsp=>?_⟩) <;>(try simp only [nm] at hsp) <;>try subst hsp)) | fail)
 all_goals (conv=>whnf)
 all_goals (refine k7 ?_;simp only [Cl.size,List.length_map];grind [wrap_small])
theorem a6J (C:Laid P) (c_k:Int) (c_b:List UInt8) (c_i:List Ob) (c_ks:List Ob) (c_vs:List Ob) (c_m:Int) (c_a:Int):j7 P G N8 [.agg [.int .i64 c_k,.str c_b,.sl 7 (List.map i6 c_i),.sl 7 (List.map i6 c_ks),.sl 7 (List.map i6 c_vs),.int .i64 c_m,.int .i64 c_a]] [] (pI (⟨c_k,c_b,c_i,c_ks,c_vs,c_m,c_a⟩:Cl).size):=b6g C (⟨c_k,c_b,c_i,c_ks,c_vs,c_m,c_a⟩:Cl)
set_option maxHeartbeats 1000000 in
theorem b4e (C:Laid P) (c:Cl):j7 P G a0y [aC c] [] (pI c.size):=by
 refine i5 C (b6q C) rfl ?_
 repeat' ((conv=>whnf);first | (with_reducible refine sC (by kernel_rfl) ?_) | ((with_reducible refine sB ?_);first | refine oT ?_ | refine oF ?_ | (refine Or.inr (Or.inr ⟨fun hsp=>?_,fun hsp=>?_⟩) <;>(try simp only [nm] at hsp) <;>try subst hsp)) | ((with_reducible refine o8 ?_);first | refine oT ?_ | refine oF ?_ | (refine Or.inr (Or.inr ⟨fun hsp=>?_,fun hsp=>?_⟩) <;>(try simp only [nm] at hsp) <;>try subst hsp)) | ((with_reducible refine o7 ?_);first | refine oT ?_ | refine oF ?_ | (refine Or.inr (Or.inr ⟨fun hsp=>?_,fun hsp=>?_⟩) <;>(try simp only [nm] at hsp) <;>try subst hsp)) | ((refine sP (by rfl) ?_);first | refine oT ?_ | refine oF ?_ | (refine Or.inr (Or.inr ⟨fun hsp=>?_,fun hsp=>?_⟩) <;>(try simp only [nm] at hsp) <;>try subst hsp)) | fail)
 all_goals (conv=>whnf)
 all_goals (refine k7 ?_;simp only [Cl.size,List.length_map];grind [wrap_small])
theorem a6q (C:Laid P) (c_k:Int) (c_b:List UInt8) (c_i:List Ob) (c_ks:List Ob) (c_vs:List Ob) (c_m:Int) (c_a:Int):j7 P G a0y [.agg [.int .i64 c_k,.str c_b,.sl 7 (List.map i6 c_i),.sl 7 (List.map i6 c_ks),.sl 7 (List.map i6 c_vs),.int .i64 c_m,.int .i64 c_a]] [] (pI (⟨c_k,c_b,c_i,c_ks,c_vs,c_m,c_a⟩:Cl).size):=b4e C (⟨c_k,c_b,c_i,c_ks,c_vs,c_m,c_a⟩:Cl)
end Go.Ab.Td
namespace Go.Ab.Td
set_option maxRecDepth 100000
set_option maxRecDepth 100000
open Go Go.Ab
variable {P:Program}
set_option linter.unusedSimpArgs false
attribute [local irreducible] f0
def c6B:PV:=.agg [.str [110,117,108,108,116,121,112,101],.int .i64 (0),.int .i64 (0),.int .i64 (0),.int .i64 (0),.int .i64 (0),.str [109,97,114,107,116,121,112,101],.int .i64 (0),.int .i64 (0),.int .i64 (0),.int .i64 (0),.int .i64 (0),.str [98,111,111,108,101,97,110,116,121,112,101],.int .i64 (0),.int .i64 (1),.int .i64 (0),.int .i64 (0),.int .i64 (0),.str [105,110,116,101,103,101,114,116,121,112,101],.int .i64 (-2147483648),.int .i64 (2147483647),.int .i64 (0),.int .i64 (0),.int .i64 (0),.str [114,101,97,108,116,121,112,101],.int .i64 (-2147483648),.int .i64 (2147483648),.int .i64 (0),.int .i64 (0),.int .i64 (0),.str [110,97,109,101,116,121,112,101],.int .i64 (0),.int .i64 (0),.int .i64 (0),.int .i64 (100),.int .i64 (0),.str [115,116,114,105,110,103,116,121,112,101],.int .i64 (0),.int .i64 (0),.int .i64 (0),.int .i64 (0),.int .i64 (1),.str [97,114,114,97,121,116,121,112,101],.int .i64 (0),.int .i64 (0),.int .i64 (0),.int .i64 (0),.int .i64 (2),.str [112,97,99,107,101,100,97,114,114,97,121,116,121,112,101],.int .i64 (0),.int .i64 (0),.int .i64 (0),.int .i64 (0),.int .i64 (2),.str [100,105,99,116,116,121,112,101],.int .i64 (0),.int .i64 (0),.int .i64 (0),.int .i64 (0),.int .i64 (3),.str [111,112,101,114,97,116,111,114,116,121,112,101],.int .i64 (0),.int .i64 (0),.int .i64 (1),.int .i64 (100),.int .i64 (0),.str [102,105,108,101,116,121,112,101],.int .i64 (0),.int .i64 (0),.int .i64 (0),.int .i64 (0),.int .i64 (3),.str [115,97,118,101,116,121,112,101],.int .i64 (1),.int .i64 (9223372036854775807),.int .i64 (0),.int .i64 (0),.int .i64 (0)]
def b3d (s:List UInt8) (a b c d e:Int):PV:=.agg [.str s,pI a,pI b,pI c,pI d,pI e]
set_option maxHeartbeats 1000000 in
theorem b1E (C:Laid P):j7 P G G4 [] [] (c6B):=by
 refine i5 C (a0Y C) rfl ?_
 repeat' ((conv=>whnf);first | (with_reducible refine sC (by kernel_rfl) ?_) | ((with_reducible refine sB ?_);first | refine oT ?_ | refine oF ?_ | (refine Or.inr (Or.inr ⟨fun hsp=>?_,fun hsp=>?_⟩) <;>(try simp only [nm] at hsp) <;>try subst hsp)) | ((with_reducible refine o8 ?_);first | refine oT ?_ | refine oF ?_ | (refine Or.inr (Or.inr ⟨fun hsp=>?_,fun hsp=>?_⟩) <;>(try simp only [nm] at hsp) <;>try subst hsp)) | ((with_reducible refine o7 ?_);first | refine oT ?_ | refine oF ?_ | (refine Or.inr (Or.inr ⟨fun hsp=>?_,fun hsp=>?_⟩) <;>(try simp only [nm] at hsp) <;>try subst hsp)) | ((refine sP (by rfl) ?_);first | refine oT ?_ | refine oF ?_ | (refine Or.inr (Or.inr ⟨fun hsp=>?_,fun hsp=>?_⟩) <;>(try simp only [nm] at hsp) <;>try subst hsp)) | fail)
 all_goals (conv=>whnf)
 all_goals (exact PV.le.refl _)
set_option maxHeartbeats 1000000 in
theorem a6B (C:Laid P) (s:List UInt8) (a b c d e:Int) (o:Ob):j7 P G p8 [b3d s a b c d e,aO o] [] (.bool (tt (a≤o.n∧o.n≤b))):=by
 refine i5 C (K9 C) rfl ?_
 repeat' ((conv=>whnf);first | (with_reducible refine sC (by kernel_rfl) ?_) | ((with_reducible refine sB ?_);first | refine oT ?_ | refine oF ?_ | (refine Or.inr (Or.inr ⟨fun hsp=>?_,fun hsp=>?_⟩) <;>(try simp only [nm] at hsp) <;>try subst hsp)) | ((with_reducible refine o8 ?_);first | refine oT ?_ | refine oF ?_ | (refine Or.inr (Or.inr ⟨fun hsp=>?_,fun hsp=>?_⟩) <;>(try simp only [nm] at hsp) <;>try subst hsp)) | ((with_reducible refine o7 ?_);first | refine oT ?_ | refine oF ?_ | (refine Or.inr (Or.inr ⟨fun hsp=>?_,fun hsp=>?_⟩) <;>(try simp only [nm] at hsp) <;>try subst hsp)) | ((refine sP (by rfl) ?_);first | refine oT ?_ | refine oF ?_ | (refine Or.inr (Or.inr ⟨fun hsp=>?_,fun hsp=>?_⟩) <;>(try simp only [nm] at hsp) <;>try subst hsp)) | fail)
 all_goals (conv=>whnf)
 all_goals (first | (with_reducible refine z6 ?_) | (with_reducible refine x6 ?_) | (refine z9 ?_;try simp (disch:=omega) only [nm,wrap_small])) <;>(grind)
theorem a5b (C:Laid P) (s:List UInt8) (a b c d e:Int) (o_k:Int) (o_e:Bool) (o_n:Int) (o_s:List UInt8) (o_r:Int) (o_f:Int) (o_l:Int):j7 P G p8 [b3d s a b c d e,.agg [.int .i64 o_k,.bool o_e,.int .i64 o_n,.str o_s,.int .i64 o_r,.int .i64 o_f,.int .i64 o_l]] [] (.bool (tt (a≤o_n∧o_n≤b))):=a6B C s a b c d e (⟨o_k,o_e,o_n,o_s,o_r,o_f,o_l⟩:Ob)
set_option maxHeartbeats 1000000 in
theorem a7c (C:Laid P) (s:List UInt8) (a b c d e:Int) (o:Ob):j7 P G u3 [b3d s a b c d e,aO o] [] (.bool (tt (c≤o.name.length∧o.name.length≤d))):=by
 refine i5 C (M0 C) rfl ?_
 repeat' ((conv=>whnf);first | (with_reducible refine sC (by kernel_rfl) ?_) | ((with_reducible refine sB ?_);first | refine oT ?_ | refine oF ?_ | (refine Or.inr (Or.inr ⟨fun hsp=>?_,fun hsp=>?_⟩) <;>(try simp only [nm] at hsp) <;>try subst hsp)) | ((with_reducible refine o8 ?_);first | refine oT ?_ | refine oF ?_ | (refine Or.inr (Or.inr ⟨fun hsp=>?_,fun hsp=>?_⟩) <;>(try simp only [nm] at hsp) <;>try subst hsp)) | ((with_reducible refine o7 ?_);first | refine oT ?_ | refine oF ?_ | (refine Or.inr (Or.inr ⟨fun hsp=>?_,fun hsp=>?_⟩) <;>(try simp only [nm] at hsp) <;>try subst hsp)) | ((refine sP (by rfl) ?_);first | refine oT ?_ | refine oF ?_ | (refine Or.inr (Or.inr ⟨fun hsp=>?_,fun hsp=>?_⟩) <;>(try simp only [nm] at hsp) <;>try subst hsp)) | fail)
 all_goals (conv=>whnf)
 all_goals (first | (with_reducible refine z6 ?_) | (with_reducible refine x6 ?_) | (refine z9 ?_;try simp (disch:=omega) only [nm,wrap_small])) <;>(grind)
theorem a6b (C:Laid P) (s:List UInt8) (a b c d e:Int) (o_k:Int) (o_e:Bool) (o_n:Int) (o_s:List UInt8) (o_r:Int) (o_f:Int) (o_l:Int):j7 P G u3 [b3d s a b c d e,.agg [.int .i64 o_k,.bool o_e,.int .i64 o_n,.str o_s,.int .i64 o_r,.int .i64 o_f,.int .i64 o_l]] [] (.bool (tt (c≤o_s.length∧o_s.length≤d))):=a7c C s a b c d e (⟨o_k,o_e,o_n,o_s,o_r,o_f,o_l⟩:Ob)
set_option maxHeartbeats 1000000 in
theorem a6h (C:Laid P) (s:List UInt8) (a b c d e:Int) (he:0≤e∧e≤3):j7 P G u6 [b3d s a b c d e] [] (pI (if e=1∨e=2 then 1000 else 0)):=by
 refine i5 C (H7 C) rfl ?_
 obtain rfl | rfl | rfl | rfl:e=0∨e=1∨e=2∨e=3:=by omega
 repeat' ((conv=>whnf);first | (with_reducible refine sC (by kernel_rfl) ?_) | ((with_reducible refine sB ?_);first | refine oT ?_ | refine oF ?_ | (refine Or.inr (Or.inr ⟨fun hsp=>?_,fun hsp=>?_⟩) <;>(try simp only [nm] at hsp) <;>try subst hsp)) | ((with_reducible refine o8 ?_);first | refine oT ?_ | refine oF ?_ | (refine Or.inr (Or.inr ⟨fun hsp=>?_,fun hsp=>?_⟩) <;>(try simp only [nm] at hsp) <;>try subst hsp)) | ((with_reducible refine o7 ?_);first | refine oT ?_ | refine oF ?_ | (refine Or.inr (Or.inr ⟨fun hsp=>?_,fun hsp=>?_⟩) <;>(try simp only [nm] at hsp) <;>try subst hsp)) | ((refine sP (by rfl) ?_);first | refine oT ?_ | refine oF ?_ | (refine Or.inr (Or.inr ⟨fun hsp=>?_,fun hsp=>?_⟩) <;>(try simp only [nm] at hsp) <;>try subst hsp)) | fail)
 all_goals (conv=>whnf)
 all_goals (exact PV.le.refl _)
set_option maxHeartbeats 1000000 in
theorem a4t (C:Laid P) (s:List UInt8) (a b c d e:Int) (he:0≤e∧e≤3) (o:Ob):j7 P G m7 [b3d s a b c d e,aO o] [] (.bool (tt (if e=0 then o.ref=0∧o.off=0∧o.len=0 else 0≤o.ref∧o.ref≤20000∧0≤o.off∧0≤o.len∧o.off+o.len≤(if e=1∨e=2 then 1000 else 0)))):=by
 refine i5 C (D9 C) rfl ?_
 obtain rfl | rfl | rfl | rfl:e=0∨e=1∨e=2∨e=3:=by omega
 repeat' ((conv=>whnf);first | (with_reducible refine sC (by kernel_rfl) ?_) | ((with_reducible refine sB ?_);first | refine oT ?_ | refine oF ?_ | (refine Or.inr (Or.inr ⟨fun hsp=>?_,fun hsp=>?_⟩) <;>(try simp only [nm] at hsp) <;>try subst hsp)) | ((with_reducible refine o8 ?_);first | refine oT ?_ | refine oF ?_ | (refine Or.inr (Or.inr ⟨fun hsp=>?_,fun hsp=>?_⟩) <;>(try simp only [nm] at hsp) <;>try subst hsp)) | ((with_reducible refine o7 ?_);first | refine oT ?_ | refine oF ?_ | (refine Or.inr (Or.inr ⟨fun hsp=>?_,fun hsp=>?_⟩) <;>(try simp only [nm] at hsp) <;>try subst hsp)) | ((refine sP (by rfl) ?_);first | refine oT ?_ | refine oF ?_ | (refine Or.inr (Or.inr ⟨fun hsp=>?_,fun hsp=>?_⟩) <;>(try simp only [nm] at hsp) <;>try subst hsp)) | refine ⟨_,_,a6h C s a b c d _ (by omega),?_⟩ | fail)
 all_goals (conv=>whnf)
 all_goals (first | (with_reducible refine z6 ?_) | (with_reducible refine x6 ?_) | (refine z9 ?_;try simp (disch:=omega) only [nm,wrap_small])) <;>((try simp (disch:=omega) only [wrap_small]);grind [wrap_small])
theorem a3u (C:Laid P) (s:List UInt8) (a b c d e:Int) (he:0≤e∧e≤3) (o_k:Int) (o_e:Bool) (o_n:Int) (o_s:List UInt8) (o_r:Int) (o_f:Int) (o_l:Int):j7 P G m7 [b3d s a b c d e,.agg [.int .i64 o_k,.bool o_e,.int .i64 o_n,.str o_s,.int .i64 o_r,.int .i64 o_f,.int .i64 o_l]] [] (.bool (tt (if e=0 then o_r=0∧o_f=0∧o_l=0 else 0≤o_r∧o_r≤20000∧0≤o_f∧0≤o_l∧o_f+o_l≤(if e=1∨e=2 then 1000 else 0)))):=a4t C s a b c d e he (⟨o_k,o_e,o_n,o_s,o_r,o_f,o_l⟩:Ob)
set_option maxHeartbeats 1000000 in
theorem b1O (C:Laid P) (o:Ob) (ho:o.n<9223372036854775808):j7 P G n6 [aO o] [] (pI o.ck):=by
 refine i5 C (a0F C) rfl ?_
 obtain ⟨k,e,n,s,r,f,l⟩:=o
 simp only at ho
 repeat' ((conv=>whnf);first | (with_reducible refine sC (by kernel_rfl) ?_) | ((with_reducible refine sB ?_);first | refine oT ?_ | refine oF ?_ | (refine Or.inr (Or.inr ⟨fun hsp=>?_,fun hsp=>?_⟩) <;>(try simp only [nm] at hsp) <;>try subst hsp)) | ((with_reducible refine o8 ?_);first | refine oT ?_ | refine oF ?_ | (refine Or.inr (Or.inr ⟨fun hsp=>?_,fun hsp=>?_⟩) <;>(try simp only [nm] at hsp) <;>try subst hsp)) | ((with_reducible refine o7 ?_);first | refine oT ?_ | refine oF ?_ | (refine Or.inr (Or.inr ⟨fun hsp=>?_,fun hsp=>?_⟩) <;>(try simp only [nm] at hsp) <;>try subst hsp)) | ((refine sP (by rfl) ?_);first | refine oT ?_ | refine oF ?_ | (refine Or.inr (Or.inr ⟨fun hsp=>?_,fun hsp=>?_⟩) <;>(try simp only [nm] at hsp) <;>try subst hsp)) | refine ⟨_,_,b1E C,?_⟩ | refine ⟨_,_,a5b C _ _ _ _ _ _ _ _ _ _ _ _ _,?_⟩ | refine ⟨_,_,a6b C _ _ _ _ _ _ _ _ _ _ _ _ _,?_⟩ | refine ⟨_,_,a3u C _ _ _ _ _ _ (by omega) _ _ _ _ _ _ _,?_⟩ | (intro X hX hW) | refine hX _ ?_ | ((refine b9d k (by omega) (by omega) ?_ ?_ ?_ ?_ ?_ ?_ ?_ ?_ ?_ ?_ ?_ ?_ ?_) <;>(intro hk;subst hk)) | fail)
 all_goals (conv=>whnf)
 all_goals (refine k7 ?_;simp only [Ob.ck];first | rw [if_pos (by grind [Ob.right,Ob.blank])] | rw [if_neg (by grind [Ob.right,Ob.blank])])
theorem K7 (C:Laid P) (o_k:Int) (o_e:Bool) (o_n:Int) (o_s:List UInt8) (o_r:Int) (o_f:Int) (o_l:Int) (ho:o_n<9223372036854775808):j7 P G n6 [.agg [.int .i64 o_k,.bool o_e,.int .i64 o_n,.str o_s,.int .i64 o_r,.int .i64 o_f,.int .i64 o_l]] [] (pI (⟨o_k,o_e,o_n,o_s,o_r,o_f,o_l⟩:Ob).ck):=b1O C (⟨o_k,o_e,o_n,o_s,o_r,o_f,o_l⟩:Ob) ho
end Go.Ab.Td

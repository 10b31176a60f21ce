/- A part of the proof: the texts TdBase, TdA, TdB. Under: nothing. -/
import Derived.Test.YtngmifmcohmfmaaDoorG07
import Derived.Test.YtngmifmcohmfmaaDoorG05
import Derived.KernelRfl
set_option linter.unusedVariables false
namespace Go.Ab.Td
set_option maxRecDepth 100000
set_option maxRecDepth 100000
open Go Go.Ab
def b1t:List PV:=[.str [97],.str [98],.str [97,100,100],.str [120],.str [102,111,111],.str [],.str [112,111,112],.str [70,111,110,116]]
def G:Gl:=⟨fun i=>match i with | 0=>some b1t | _=>none,fun _=>none⟩
def noX:Nat→Option a3v:=fun _=>none
def noT:Nat→Option m8:=fun _=>none
theorem i5 {P:Program} (C:Laid P) {g:Nat} {c:m8} {ps:List PV} {r:PV} (hk:b9 P g c=true) (hl:ps.length=c.nparams) (h:fnV G (j4 P G) noX noT noT 0 c ps r):j4 P G g ps [] r:=
 a7S C.mixed hk (fun _ _ h=>by cases h) (fun _ _ h=>by cases h) (fun _ _ h=>by cases h) hl h
end Go.Ab.Td
namespace Go.Ab.Td
set_option maxRecDepth 100000
set_option maxRecDepth 100000
open Go Go.Ab
variable {P:Program}
set_option linter.unusedSimpArgs false
attribute [local irreducible] e9
set_option maxHeartbeats 1000000 in
theorem a9c (C:Laid P) (o:Ob):j4 P G L1 [aO o] [] (.bool (tt o.comp)):=by
 refine i5 C (a9Y C) rfl ?_
 repeat' ((conv=>whnf);first | (with_reducible refine sC (by kernel_rfl) ?_) | ((with_reducible refine sB ?_);first | refine oT ?_ | refine oF ?_ | (refine Or.inr (Or.inr ⟨fun hsp=>?_,fun hsp=>?_⟩) <;>(try simp only [nm] at hsp) <;>try subst hsp)) | ((with_reducible refine o5 ?_);first | refine oT ?_ | refine oF ?_ | (refine Or.inr (Or.inr ⟨fun hsp=>?_,fun hsp=>?_⟩) <;>(try simp only [nm] at hsp) <;>try subst hsp)) | ((with_reducible refine o6 ?_);first | refine oT ?_ | refine oF ?_ | (refine Or.inr (Or.inr ⟨fun hsp=>?_,fun hsp=>?_⟩) <;>(try simp only [nm] at hsp) <;>try subst hsp)) | ((refine sP (by rfl) ?_);first | refine oT ?_ | refine oF ?_ | (refine Or.inr (Or.inr ⟨fun hsp=>?_,fun hsp=>?_⟩) <;>(try simp only [nm] at hsp) <;>try subst hsp)) | fail)
 all_goals (conv=>whnf)
 all_goals (first | (with_reducible refine A0 ?_) | (with_reducible refine y3 ?_) | (refine A3 ?_;try simp (disch:=omega) only [nm,wrap_small])) <;>(unfold Ob.comp;omega)
theorem a7y (C:Laid P) (o_k:Int) (o_e:Bool) (o_n:Int) (o_s:List UInt8) (o_r:Int) (o_f:Int) (o_l:Int):j4 P G L1 [.agg [.int .i64 o_k,.bool o_e,.int .i64 o_n,.str o_s,.int .i64 o_r,.int .i64 o_f,.int .i64 o_l]] [] (.bool (tt (⟨o_k,o_e,o_n,o_s,o_r,o_f,o_l⟩:Ob).comp)):=a9c C (⟨o_k,o_e,o_n,o_s,o_r,o_f,o_l⟩:Ob)
end Go.Ab.Td
namespace Go.Ab.Td
set_option maxRecDepth 100000
set_option maxRecDepth 100000
open Go Go.Ab
variable {P:Program}
set_option linter.unusedSimpArgs false
attribute [local irreducible] e9
set_option maxHeartbeats 1000000 in
theorem a7A (C:Laid P) (l:List Ob) (o:Ob) (hl:l.length<2 ^ 62):j4 P G a1Z [.sl 7 (List.map i4 l),aO o] [] (pI (j1 o 0 l)):=by
 refine i5 C (b4z C) rfl ?_
 repeat' ((conv=>whnf);first | (with_reducible refine sC (by kernel_rfl) ?_) | ((with_reducible refine sB ?_);first | refine oT ?_ | refine oF ?_ | (refine Or.inr (Or.inr ⟨fun hsp=>?_,fun hsp=>?_⟩) <;>(try simp only [nm] at hsp) <;>try subst hsp)) | ((with_reducible refine o5 ?_);first | refine oT ?_ | refine oF ?_ | (refine Or.inr (Or.inr ⟨fun hsp=>?_,fun hsp=>?_⟩) <;>(try simp only [nm] at hsp) <;>try subst hsp)) | ((with_reducible refine o6 ?_);first | refine oT ?_ | refine oF ?_ | (refine Or.inr (Or.inr ⟨fun hsp=>?_,fun hsp=>?_⟩) <;>(try simp only [nm] at hsp) <;>try subst hsp)) | ((refine sP (by rfl) ?_);first | refine oT ?_ | refine oF ?_ | (refine Or.inr (Or.inr ⟨fun hsp=>?_,fun hsp=>?_⟩) <;>(try simp only [nm] at hsp) <;>try subst hsp)) | fail)
 all_goals (conv=>whnf)
 intro X hX hW
 refine a2s hX (fun st (a:Nat)=>st.upd [(5,.pv (pI (a:Int)))] []) (fun a m=>a+m=l.length∧(j1 o 0 l=j1 o a (l.drop a))) 0 l.length (by (conv=>whnf);first | done | rfl) (by simp) ?_
 intro m i ih hI
 rcases a0J l i with ⟨x,hlt,hx⟩ | hge
 ·have hrow:=y9 (f:=i4) hx
  have hd:=W1 hx
  have hI2:=hI.2
  rw [hd] at hI2
  simp only [j1] at hI2
  repeat' ((conv=>whnf);first | (with_reducible refine sC (by kernel_rfl) ?_) | ((with_reducible refine sB ?_);first | refine oT ?_ | refine oF ?_ | (refine Or.inr (Or.inr ⟨fun hsp=>?_,fun hsp=>?_⟩) <;>(try simp only [nm,List.length_map] at hsp) <;>try subst hsp)) | ((with_reducible refine o5 ?_);first | refine oT ?_ | refine oF ?_ | (refine Or.inr (Or.inr ⟨fun hsp=>?_,fun hsp=>?_⟩) <;>(try simp only [nm,List.length_map] at hsp) <;>try subst hsp)) | ((with_reducible refine o6 ?_);first | refine oT ?_ | refine oF ?_ | (refine Or.inr (Or.inr ⟨fun hsp=>?_,fun hsp=>?_⟩) <;>(try simp only [nm,List.length_map] at hsp) <;>try subst hsp)) | ((refine sP (by rfl) ?_);first | refine oT ?_ | refine oF ?_ | (refine Or.inr (Or.inr ⟨fun hsp=>?_,fun hsp=>?_⟩) <;>(try simp only [nm,List.length_map] at hsp) <;>try subst hsp)) | refine sS (e7 (by rfl) (by rfl) (by omega) hrow) ?_ | fail)
  all_goals (conv=>whnf)
  all_goals first
   | (refine ih (m - 1) (i+1) _ (by omega) ⟨by (try dsimp only);omega,?_⟩ (by (conv=>whnf);first | done | rfl | (simp (disch:=omega) only [A7])))
   | (with_reducible first | refine j9 ?_ | refine A0 ?_ | refine y3 ?_)
   | (refine A3 ?_;simp only [nm])
   | refine le_of_eq ?_
  all_goals grind
 ·have hd:l.drop i=[]:=List.drop_eq_nil_of_le hge
  have hI2:=hI.2
  rw [hd] at hI2
  simp only [j1] at hI2
  repeat' ((conv=>whnf);first | (with_reducible refine sC (by kernel_rfl) ?_) | ((with_reducible refine sB ?_);first | refine oT ?_ | refine oF ?_ | (refine Or.inr (Or.inr ⟨fun hsp=>?_,fun hsp=>?_⟩) <;>(try simp only [nm,List.length_map] at hsp) <;>try subst hsp)) | ((with_reducible refine o5 ?_);first | refine oT ?_ | refine oF ?_ | (refine Or.inr (Or.inr ⟨fun hsp=>?_,fun hsp=>?_⟩) <;>(try simp only [nm,List.length_map] at hsp) <;>try subst hsp)) | ((with_reducible refine o6 ?_);first | refine oT ?_ | refine oF ?_ | (refine Or.inr (Or.inr ⟨fun hsp=>?_,fun hsp=>?_⟩) <;>(try simp only [nm,List.length_map] at hsp) <;>try subst hsp)) | ((refine sP (by rfl) ?_);first | refine oT ?_ | refine oF ?_ | (refine Or.inr (Or.inr ⟨fun hsp=>?_,fun hsp=>?_⟩) <;>(try simp only [nm,List.length_map] at hsp) <;>try subst hsp)) | fail)
  all_goals (conv=>whnf)
  all_goals first
   | (with_reducible first | refine j9 ?_ | refine A0 ?_ | refine y3 ?_)
   | (refine A3 ?_;simp only [nm])
   | refine le_of_eq ?_
  all_goals grind
set_option maxHeartbeats 1000000 in
theorem a8h (C:Laid P) (l:List Ob) (o:Ob) (hl:l.length<2 ^ 62):j4 P G s9 [.sl 7 (List.map i4 l),aO o] [] (pI (j1 o 0 l)):=by
 refine i5 C (a0s C) rfl ?_
 repeat' ((conv=>whnf);first | (with_reducible refine sC (by kernel_rfl) ?_) | ((with_reducible refine sB ?_);first | refine oT ?_ | refine oF ?_ | (refine Or.inr (Or.inr ⟨fun hsp=>?_,fun hsp=>?_⟩) <;>(try simp only [nm] at hsp) <;>try subst hsp)) | ((with_reducible refine o5 ?_);first | refine oT ?_ | refine oF ?_ | (refine Or.inr (Or.inr ⟨fun hsp=>?_,fun hsp=>?_⟩) <;>(try simp only [nm] at hsp) <;>try subst hsp)) | ((with_reducible refine o6 ?_);first | refine oT ?_ | refine oF ?_ | (refine Or.inr (Or.inr ⟨fun hsp=>?_,fun hsp=>?_⟩) <;>(try simp only [nm] at hsp) <;>try subst hsp)) | ((refine sP (by rfl) ?_);first | refine oT ?_ | refine oF ?_ | (refine Or.inr (Or.inr ⟨fun hsp=>?_,fun hsp=>?_⟩) <;>(try simp only [nm] at hsp) <;>try subst hsp)) | fail)
 all_goals (conv=>whnf)
 intro X hX hW
 refine a2s hX (fun st (a:Nat)=>st.upd [(8,.pv (pI (a:Int)))] []) (fun a m=>a+m=l.length∧(j1 o 0 l=j1 o a (l.drop a))) 0 l.length (by (conv=>whnf);first | done | rfl) (by simp) ?_
 intro m i ih hI
 rcases a0J l i with ⟨x,hlt,hx⟩ | hge
 ·have hrow:=y9 (f:=i4) hx
  have hd:=W1 hx
  have hI2:=hI.2
  rw [hd] at hI2
  simp only [j1] at hI2
  repeat' ((conv=>whnf);first | (with_reducible refine sC (by kernel_rfl) ?_) | ((with_reducible refine sB ?_);first | refine oT ?_ | refine oF ?_ | (refine Or.inr (Or.inr ⟨fun hsp=>?_,fun hsp=>?_⟩) <;>(try simp only [nm,List.length_map] at hsp) <;>try subst hsp)) | ((with_reducible refine o5 ?_);first | refine oT ?_ | refine oF ?_ | (refine Or.inr (Or.inr ⟨fun hsp=>?_,fun hsp=>?_⟩) <;>(try simp only [nm,List.length_map] at hsp) <;>try subst hsp)) | ((with_reducible refine o6 ?_);first | refine oT ?_ | refine oF ?_ | (refine Or.inr (Or.inr ⟨fun hsp=>?_,fun hsp=>?_⟩) <;>(try simp only [nm,List.length_map] at hsp) <;>try subst hsp)) | ((refine sP (by rfl) ?_);first | refine oT ?_ | refine oF ?_ | (refine Or.inr (Or.inr ⟨fun hsp=>?_,fun hsp=>?_⟩) <;>(try simp only [nm,List.length_map] at hsp) <;>try subst hsp)) | refine sS (e7 (by rfl) (by rfl) (by omega) hrow) ?_ | fail)
  all_goals (conv=>whnf)
  all_goals first
   | (refine ih (m - 1) (i+1) _ (by omega) ⟨by (try dsimp only);omega,?_⟩ (by (conv=>whnf);first | done | rfl | (simp (disch:=omega) only [A7])))
   | (with_reducible first | refine j9 ?_ | refine A0 ?_ | refine y3 ?_)
   | (refine A3 ?_;simp only [nm])
   | refine le_of_eq ?_
  all_goals grind
 ·have hd:l.drop i=[]:=List.drop_eq_nil_of_le hge
  have hI2:=hI.2
  rw [hd] at hI2
  simp only [j1] at hI2
  repeat' ((conv=>whnf);first | (with_reducible refine sC (by kernel_rfl) ?_) | ((with_reducible refine sB ?_);first | refine oT ?_ | refine oF ?_ | (refine Or.inr (Or.inr ⟨fun hsp=>?_,fun hsp=>?_⟩) <;>(try simp only [nm,List.length_map] at hsp) <;>try subst hsp)) | ((with_reducible refine o5 ?_);first | refine oT ?_ | refine oF ?_ | (refine Or.inr (Or.inr ⟨fun hsp=>?_,fun hsp=>?_⟩) <;>(try simp only [nm,List.length_map] at hsp) <;>try subst hsp)) | ((with_reducible refine o6 ?_);first | refine oT ?_ | refine oF ?_ | (refine Or.inr (Or.inr ⟨fun hsp=>?_,fun hsp=>?_⟩) <;>(try simp only [nm,List.length_map] at hsp) <;>try subst hsp)) | ((refine sP (by rfl) ?_);first | refine oT ?_ | refine oF ?_ | (refine Or.inr (Or.inr ⟨fun hsp=>?_,fun hsp=>?_⟩) <;>(try simp only [nm,List.length_map] at hsp) <;>try subst hsp)) | fail)
  all_goals (conv=>whnf)
  all_goals first
   | (with_reducible first | refine j9 ?_ | refine A0 ?_ | refine y3 ?_)
   | (refine A3 ?_;simp only [nm])
   | refine le_of_eq ?_
  all_goals grind
set_option maxHeartbeats 1000000 in
theorem b6I (C:Laid P) (c:Cl):j4 P G O9 [aC c] [] (pI c.size):=by
 refine i5 C (a7p C) rfl ?_
 repeat' ((conv=>whnf);first | (with_reducible refine sC (by kernel_rfl) ?_) | ((with_reducible refine sB ?_);first | refine oT ?_ | refine oF ?_ | (refine Or.inr (Or.inr ⟨fun hsp=>?_,fun hsp=>?_⟩) <;>(try simp only [nm] at hsp) <;>try subst hsp)) | ((with_reducible refine o5 ?_);first | refine oT ?_ | refine oF ?_ | (refine Or.inr (Or.inr ⟨fun hsp=>?_,fun hsp=>?_⟩) <;>(try simp only [nm] at hsp) <;>try subst hsp)) | ((with_reducible refine o6 ?_);first | refine oT ?_ | refine oF ?_ | (refine Or.inr (Or.inr ⟨fun hsp=>?_,fun hsp=>?_⟩) <;>(try simp only [nm] at hsp) <;>try subst hsp)) | ((refine sP (by rfl) ?_);first | refine oT ?_ | refine oF ?_ | (refine Or.inr (Or.inr ⟨fun hsp=>?_,fun hsp=>?_⟩) <;>(try simp only [nm] at hsp) <;>try subst hsp)) | fail)
 all_goals (conv=>whnf)
 all_goals (refine j9 ?_;simp only [Cl.size,List.length_map];grind [wrap_small])
theorem a7v (C:Laid P) (c_k:Int) (c_b:List UInt8) (c_i:List Ob) (c_ks:List Ob) (c_vs:List Ob) (c_m:Int) (c_a:Int):j4 P G O9 [.agg [.int .i64 c_k,.str c_b,.sl 7 (List.map i4 c_i),.sl 7 (List.map i4 c_ks),.sl 7 (List.map i4 c_vs),.int .i64 c_m,.int .i64 c_a]] [] (pI (⟨c_k,c_b,c_i,c_ks,c_vs,c_m,c_a⟩:Cl).size):=b6I C (⟨c_k,c_b,c_i,c_ks,c_vs,c_m,c_a⟩:Cl)
set_option maxHeartbeats 1000000 in
theorem b4S (C:Laid P) (c:Cl):j4 P G a1e [aC c] [] (pI c.size):=by
 refine i5 C (b6w C) rfl ?_
 repeat' ((conv=>whnf);first | (with_reducible refine sC (by kernel_rfl) ?_) | ((with_reducible refine sB ?_);first | refine oT ?_ | refine oF ?_ | (refine Or.inr (Or.inr ⟨fun hsp=>?_,fun hsp=>?_⟩) <;>(try simp only [nm] at hsp) <;>try subst hsp)) | ((with_reducible refine o5 ?_);first | refine oT ?_ | refine oF ?_ | (refine Or.inr (Or.inr ⟨fun hsp=>?_,fun hsp=>?_⟩) <;>(try simp only [nm] at hsp) <;>try subst hsp)) | ((with_reducible refine o6 ?_);first | refine oT ?_ | refine oF ?_ | (refine Or.inr (Or.inr ⟨fun hsp=>?_,fun hsp=>?_⟩) <;>(try simp only [nm] at hsp) <;>try subst hsp)) | ((refine sP (by rfl) ?_);first | refine oT ?_ | refine oF ?_ | (refine Or.inr (Or.inr ⟨fun hsp=>?_,fun hsp=>?_⟩) <;>(try simp only [nm] at hsp) <;>try subst hsp)) | fail)
 all_goals (conv=>whnf)
 all_goals (refine j9 ?_;simp only [Cl.size,List.length_map];grind [wrap_small])
theorem a6S (C:Laid P) (c_k:Int) (c_b:List UInt8) (c_i:List Ob) (c_ks:List Ob) (c_vs:List Ob) (c_m:Int) (c_a:Int):j4 P G a1e [.agg [.int .i64 c_k,.str c_b,.sl 7 (List.map i4 c_i),.sl 7 (List.map i4 c_ks),.sl 7 (List.map i4 c_vs),.int .i64 c_m,.int .i64 c_a]] [] (pI (⟨c_k,c_b,c_i,c_ks,c_vs,c_m,c_a⟩:Cl).size):=b4S C (⟨c_k,c_b,c_i,c_ks,c_vs,c_m,c_a⟩:Cl)
end Go.Ab.Td

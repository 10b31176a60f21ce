/- A part of the proof: the texts TdE. Under: nothing. -/
import Derived.Test.YtomfaadmmchdcaaGreatDoorG09
set_option linter.unusedVariables false
namespace Go.Ab.Td
set_option maxRecDepth 100000
set_option maxRecDepth 100000
open Go Go.Ab
variable {P:Program}
set_option linter.unusedSimpArgs false
attribute [local irreducible] e9
set_option maxHeartbeats 1000000 in
theorem a7r (C:Laid P) (l:List Int) (k:Int) (hl:l.length<2 ^ 62):l3 P G A7 [.sl 1 (l.map fun x=>[pI x]),pI k] [] (pI (a5w k 0 l)):=by
 refine k8 C (a0i C) rfl ?_
 repeat' ((conv=>whnf);first | (with_reducible refine sC (by kernel_rfl) ?_) | ((with_reducible refine sB ?_);first | refine oT ?_ | refine oF ?_ | (refine Or.inr (Or.inr ⟨fun hsp=>?_,fun hsp=>?_⟩) <;>(try simp only [nm] at hsp) <;>try subst hsp)) | ((with_reducible refine z7 ?_);first | refine oT ?_ | refine oF ?_ | (refine Or.inr (Or.inr ⟨fun hsp=>?_,fun hsp=>?_⟩) <;>(try simp only [nm] at hsp) <;>try subst hsp)) | ((with_reducible refine z8 ?_);first | refine oT ?_ | refine oF ?_ | (refine Or.inr (Or.inr ⟨fun hsp=>?_,fun hsp=>?_⟩) <;>(try simp only [nm] at hsp) <;>try subst hsp)) | ((refine sP (by rfl) ?_);first | refine oT ?_ | refine oF ?_ | (refine Or.inr (Or.inr ⟨fun hsp=>?_,fun hsp=>?_⟩) <;>(try simp only [nm] at hsp) <;>try subst hsp)) | fail)
 all_goals (conv=>whnf)
 intro X hX hW
 refine a3T hX (fun st (a:Nat)=>st.upd [(8,.pv (pI (a:Int)))] []) (fun a m=>a+m=l.length∧(a5w k 0 l=a5w k a (l.drop a))) 0 l.length (by (conv=>whnf);first | done | rfl) (by simp) ?_
 intro m i ih hI
 rcases a3I l i with ⟨x,hlt,hx⟩ | hge
 ·have hrow:=K4 (f:=fun x:Int=>[pI x]) hx
  have hd:=a5r hx
  have hI2:=hI.2
  rw [hd] at hI2
  simp only [a5w] at hI2
  repeat' ((conv=>whnf);first | (with_reducible refine sC (by kernel_rfl) ?_) | ((with_reducible refine sB ?_);first | refine oT ?_ | refine oF ?_ | (refine Or.inr (Or.inr ⟨fun hsp=>?_,fun hsp=>?_⟩) <;>(try simp only [nm,List.length_map] at hsp) <;>try subst hsp)) | ((with_reducible refine z7 ?_);first | refine oT ?_ | refine oF ?_ | (refine Or.inr (Or.inr ⟨fun hsp=>?_,fun hsp=>?_⟩) <;>(try simp only [nm,List.length_map] at hsp) <;>try subst hsp)) | ((with_reducible refine z8 ?_);first | refine oT ?_ | refine oF ?_ | (refine Or.inr (Or.inr ⟨fun hsp=>?_,fun hsp=>?_⟩) <;>(try simp only [nm,List.length_map] at hsp) <;>try subst hsp)) | ((refine sP (by rfl) ?_);first | refine oT ?_ | refine oF ?_ | (refine Or.inr (Or.inr ⟨fun hsp=>?_,fun hsp=>?_⟩) <;>(try simp only [nm,List.length_map] at hsp) <;>try subst hsp)) | refine sS (e7 (by rfl) (by rfl) (by omega) hrow) ?_ | fail)
  all_goals (conv=>whnf)
  all_goals first
   | (refine ih (m - 1) (i+1) _ (by omega) ⟨by (try dsimp only);omega,?_⟩ (by (conv=>whnf);first | done | rfl | (simp (disch:=omega) only [P9])))
   | (with_reducible first | refine l0 ?_ | refine A9 ?_ | refine z9 ?_)
   | (refine A8 ?_;simp only [nm])
   | refine le_of_eq ?_
  all_goals grind
 ·have hd:l.drop i=[]:=List.drop_eq_nil_of_le hge
  have hI2:=hI.2
  rw [hd] at hI2
  simp only [a5w] at hI2
  repeat' ((conv=>whnf);first | (with_reducible refine sC (by kernel_rfl) ?_) | ((with_reducible refine sB ?_);first | refine oT ?_ | refine oF ?_ | (refine Or.inr (Or.inr ⟨fun hsp=>?_,fun hsp=>?_⟩) <;>(try simp only [nm,List.length_map] at hsp) <;>try subst hsp)) | ((with_reducible refine z7 ?_);first | refine oT ?_ | refine oF ?_ | (refine Or.inr (Or.inr ⟨fun hsp=>?_,fun hsp=>?_⟩) <;>(try simp only [nm,List.length_map] at hsp) <;>try subst hsp)) | ((with_reducible refine z8 ?_);first | refine oT ?_ | refine oF ?_ | (refine Or.inr (Or.inr ⟨fun hsp=>?_,fun hsp=>?_⟩) <;>(try simp only [nm,List.length_map] at hsp) <;>try subst hsp)) | ((refine sP (by rfl) ?_);first | refine oT ?_ | refine oF ?_ | (refine Or.inr (Or.inr ⟨fun hsp=>?_,fun hsp=>?_⟩) <;>(try simp only [nm,List.length_map] at hsp) <;>try subst hsp)) | fail)
  all_goals (conv=>whnf)
  all_goals first
   | (with_reducible first | refine l0 ?_ | refine A9 ?_ | refine z9 ?_)
   | (refine A8 ?_;simp only [nm])
   | refine le_of_eq ?_
  all_goals grind
set_option maxHeartbeats 1000000 in
theorem a0X (C:Laid P) (l:List Int) (k:Int) (hl:l.length<2 ^ 62):l3 P G x2 [.sl 1 (l.map fun x=>[pI x]),pI k] [] (.bool (tt (k ∈ l))):=by
 refine k8 C (Q6 C) rfl ?_
 repeat' ((conv=>whnf);first | (with_reducible refine sC (by kernel_rfl) ?_) | ((with_reducible refine sB ?_);first | refine oT ?_ | refine oF ?_ | (refine Or.inr (Or.inr ⟨fun hsp=>?_,fun hsp=>?_⟩) <;>(try simp only [nm] at hsp) <;>try subst hsp)) | ((with_reducible refine z7 ?_);first | refine oT ?_ | refine oF ?_ | (refine Or.inr (Or.inr ⟨fun hsp=>?_,fun hsp=>?_⟩) <;>(try simp only [nm] at hsp) <;>try subst hsp)) | ((with_reducible refine z8 ?_);first | refine oT ?_ | refine oF ?_ | (refine Or.inr (Or.inr ⟨fun hsp=>?_,fun hsp=>?_⟩) <;>(try simp only [nm] at hsp) <;>try subst hsp)) | ((refine sP (by rfl) ?_);first | refine oT ?_ | refine oF ?_ | (refine Or.inr (Or.inr ⟨fun hsp=>?_,fun hsp=>?_⟩) <;>(try simp only [nm] at hsp) <;>try subst hsp)) | refine ⟨_,_,a7r C _ _ hl,?_⟩ | fail)
 all_goals (conv=>whnf)
 all_goals (first | (with_reducible refine A9 ?_) | (with_reducible refine z9 ?_) | (refine A8 ?_;try simp (disch:=omega) only [nm,wrap_small])) <;>(exact b1U k l 0)
set_option maxHeartbeats 1000000 in
theorem a0W (C:Laid P) (h:List Cl) (o:Ob) (ks:List Int) (ho:o.n<9223372036854775808) (hl:ks.length<2 ^ 62) (hv:U0 h o ks=0):l3 P G y1 [.sl 7 (List.map j8 h),aO o,.sl 1 (ks.map fun x=>[pI x])] [] (.o0 [.agg (.sl 7 (List.map j8 h)::i4 o),pI 0]):=by
 refine k8 C (a1P C) rfl ?_
 obtain ⟨hf,hk⟩:=b8e hv
 repeat' ((conv=>whnf);first | (with_reducible refine sC (by kernel_rfl) ?_) | ((with_reducible refine sB ?_);first | refine oT ?_ | refine oF ?_ | (refine Or.inr (Or.inr ⟨fun hsp=>?_,fun hsp=>?_⟩) <;>(try simp only [nm] at hsp) <;>try subst hsp)) | ((with_reducible refine z7 ?_);first | refine oT ?_ | refine oF ?_ | (refine Or.inr (Or.inr ⟨fun hsp=>?_,fun hsp=>?_⟩) <;>(try simp only [nm] at hsp) <;>try subst hsp)) | ((with_reducible refine z8 ?_);first | refine oT ?_ | refine oF ?_ | (refine Or.inr (Or.inr ⟨fun hsp=>?_,fun hsp=>?_⟩) <;>(try simp only [nm] at hsp) <;>try subst hsp)) | ((refine sP (by rfl) ?_);first | refine oT ?_ | refine oF ?_ | (refine Or.inr (Or.inr ⟨fun hsp=>?_,fun hsp=>?_⟩) <;>(try simp only [nm] at hsp) <;>try subst hsp)) | refine ⟨_,_,a6J C _ _ _ _ _ _ _ _ (by assumption),?_⟩ | refine ⟨_,_,a0X C _ _ hl,?_⟩ | fail)
 all_goals (conv=>whnf)
 all_goals (repeat' (first | (with_reducible exact PV.le.refl _) | exact PV.le.emp _ | exact E6.nil | (with_reducible refine p8 ?_) | (with_reducible refine o6 ?_) | (refine E6.cons ?_ ?_) | (with_reducible refine l0 ?_) | (with_reducible refine q8 ?_) | (with_reducible refine A9 ?_) | (with_reducible refine z9 ?_) | (with_reducible refine o3 ?_) | (refine A8 ?_))) <;>first | rfl | exact PV.le.refl _ | grind
set_option maxHeartbeats 1000000 in
theorem a0k (C:Laid P) (h:List Cl) (o:Ob) (ks:List Int) (ho:o.n<9223372036854775808) (hl:ks.length<2 ^ 62) (hv:U0 h o ks≠0):l3 P G y1 [.sl 7 (List.map j8 h),aO o,.sl 1 (ks.map fun x=>[pI x])] [] (.o0 [.agg (.sl 7 []::i4 V8),pI (U0 h o ks)]):=by
 refine k8 C (a1P C) rfl ?_
 have hb:=c2j hv
 repeat' ((conv=>whnf);first | (with_reducible refine sC (by kernel_rfl) ?_) | ((with_reducible refine sB ?_);first | refine oT ?_ | refine oF ?_ | (refine Or.inr (Or.inr ⟨fun hsp=>?_,fun hsp=>?_⟩) <;>(try simp only [nm] at hsp) <;>try subst hsp)) | ((with_reducible refine z7 ?_);first | refine oT ?_ | refine oF ?_ | (refine Or.inr (Or.inr ⟨fun hsp=>?_,fun hsp=>?_⟩) <;>(try simp only [nm] at hsp) <;>try subst hsp)) | ((with_reducible refine z8 ?_);first | refine oT ?_ | refine oF ?_ | (refine Or.inr (Or.inr ⟨fun hsp=>?_,fun hsp=>?_⟩) <;>(try simp only [nm] at hsp) <;>try subst hsp)) | ((refine sP (by rfl) ?_);first | refine oT ?_ | refine oF ?_ | (refine Or.inr (Or.inr ⟨fun hsp=>?_,fun hsp=>?_⟩) <;>(try simp only [nm] at hsp) <;>try subst hsp)) | refine ⟨_,_,a6J C _ _ _ _ _ _ _ _ (by assumption),?_⟩ | refine ⟨_,_,a0X C _ _ hl,?_⟩ | fail)
 all_goals (conv=>whnf)
 all_goals (first | (exfalso;grind) | ((repeat' (first | (with_reducible exact PV.le.refl _) | exact PV.le.emp _ | exact E6.nil | (with_reducible refine p8 ?_) | (with_reducible refine o6 ?_) | (refine E6.cons ?_ ?_) | (with_reducible refine l0 ?_) | (with_reducible refine q8 ?_) | (with_reducible refine A9 ?_) | (with_reducible refine z9 ?_) | (with_reducible refine o3 ?_) | (refine A8 ?_))) <;>first | rfl | exact PV.le.refl _ | grind))
set_option maxHeartbeats 1000000 in
theorem R7 (C:Laid P) (h:List Cl) (o:Ob) (h0:0≤o.ref) (h1:o.ref<h.length):l3 P G u7 [.agg (.sl 7 (List.map j8 h)::i4 o)] [] (aC (cellAt h o)):=by
 refine k8 C (a1y C) rfl ?_
 repeat' ((conv=>whnf);first | (with_reducible refine sC (by kernel_rfl) ?_) | ((with_reducible refine sB ?_);first | refine oT ?_ | refine oF ?_ | (refine Or.inr (Or.inr ⟨fun hsp=>?_,fun hsp=>?_⟩) <;>(try simp only [nm] at hsp) <;>try subst hsp)) | ((with_reducible refine z7 ?_);first | refine oT ?_ | refine oF ?_ | (refine Or.inr (Or.inr ⟨fun hsp=>?_,fun hsp=>?_⟩) <;>(try simp only [nm] at hsp) <;>try subst hsp)) | ((with_reducible refine z8 ?_);first | refine oT ?_ | refine oF ?_ | (refine Or.inr (Or.inr ⟨fun hsp=>?_,fun hsp=>?_⟩) <;>(try simp only [nm] at hsp) <;>try subst hsp)) | ((refine sP (by rfl) ?_);first | refine oT ?_ | refine oF ?_ | (refine Or.inr (Or.inr ⟨fun hsp=>?_,fun hsp=>?_⟩) <;>(try simp only [nm] at hsp) <;>try subst hsp)) | refine sS (e7 (by rfl) (by rfl) (by omega) (y6 (d:=cl0) (by omega) (by omega))) ?_ | fail)
 all_goals (conv=>whnf)
 all_goals (exact PV.le.refl _)
set_option maxHeartbeats 1000000 in
theorem a9s (C:Laid P) (h:List Cl) (o:Ob) (c:Cl) (h0:0≤o.ref) (h1:o.ref<h.length) (hl:h.length≤1000000):l3 P G u9 [.agg (.sl 7 (List.map j8 h)::i4 o),aC c] [] (.sl 7 (List.map j8 (h.set o.ref.toNat c))):=by
 refine k8 C (a1z C) rfl ?_
 repeat' ((conv=>whnf);first | (with_reducible refine sC (by kernel_rfl) ?_) | ((with_reducible refine sB ?_);first | refine oT ?_ | refine oF ?_ | (refine Or.inr (Or.inr ⟨fun hsp=>?_,fun hsp=>?_⟩) <;>(try simp only [nm] at hsp) <;>try subst hsp)) | ((with_reducible refine z7 ?_);first | refine oT ?_ | refine oF ?_ | (refine Or.inr (Or.inr ⟨fun hsp=>?_,fun hsp=>?_⟩) <;>(try simp only [nm] at hsp) <;>try subst hsp)) | ((with_reducible refine z8 ?_);first | refine oT ?_ | refine oF ?_ | (refine Or.inr (Or.inr ⟨fun hsp=>?_,fun hsp=>?_⟩) <;>(try simp only [nm] at hsp) <;>try subst hsp)) | ((refine sP (by rfl) ?_);first | refine oT ?_ | refine oF ?_ | (refine Or.inr (Or.inr ⟨fun hsp=>?_,fun hsp=>?_⟩) <;>(try simp only [nm] at hsp) <;>try subst hsp)) | refine sS (b7N (by rfl) (by omega) (by simp only [List.length_map];omega) (by rfl) (by decide)) ?_ | refine sS (b9Y (by rfl) (by rfl) d4 (by simp) (by simp)) ?_ | refine sS (c2C (by rfl) (by rfl) (by rfl) (by omega) (by simp only [List.length_map];omega)) ?_ | refine sS (c3g (c:=c) (by rfl) (by rfl) (by omega) (fun _=>rfl) (by rfl) (by rfl) (by rfl)) ?_ | fail)
 all_goals (conv=>whnf)
 all_goals (refine o3 ?_;simp;exact List.take_of_length_le (by simp))
theorem W9 (C:Laid P) (h:List Cl) (o_k:Int) (o_e:Bool) (o_n:Int) (o_s:List UInt8) (o_r:Int) (o_f:Int) (o_l:Int) (c_k:Int) (c_b:List UInt8) (c_i:List Ob) (c_ks:List Ob) (c_vs:List Ob) (c_m:Int) (c_a:Int) (h0:0≤o_r) (h1:o_r<h.length) (hl:h.length≤1000000):l3 P G u9 [.agg [.sl 7 (List.map j8 h),.int .i64 o_k,.bool o_e,.int .i64 o_n,.str o_s,.int .i64 o_r,.int .i64 o_f,.int .i64 o_l],.agg [.int .i64 c_k,.str c_b,.sl 7 (List.map i4 c_i),.sl 7 (List.map i4 c_ks),.sl 7 (List.map i4 c_vs),.int .i64 c_m,.int .i64 c_a]] [] (.sl 7 (List.map j8 (h.set o_r.toNat (⟨c_k,c_b,c_i,c_ks,c_vs,c_m,c_a⟩:Cl)))):=a9s C h (⟨o_k,o_e,o_n,o_s,o_r,o_f,o_l⟩:Ob) (⟨c_k,c_b,c_i,c_ks,c_vs,c_m,c_a⟩:Cl) h0 h1 hl
set_option maxHeartbeats 1000000 in
theorem a2f (C:Laid P) (l x:List Ob) (i:Int) (h0:0≤i) (h1:i+x.length≤l.length) (hl:l.length≤1000000):l3 P G y7 [.sl 7 (List.map i4 l),pI i,.sl 7 (List.map i4 x)] [] (.sl 7 (List.map i4 (b8X l i.toNat x))):=by
 refine k8 C (W7 C) rfl ?_
 repeat' ((conv=>whnf);first | (with_reducible refine sC (by kernel_rfl) ?_) | ((with_reducible refine sB ?_);first | refine oT ?_ | refine oF ?_ | (refine Or.inr (Or.inr ⟨fun hsp=>?_,fun hsp=>?_⟩) <;>(try simp only [nm] at hsp) <;>try subst hsp)) | ((with_reducible refine z7 ?_);first | refine oT ?_ | refine oF ?_ | (refine Or.inr (Or.inr ⟨fun hsp=>?_,fun hsp=>?_⟩) <;>(try simp only [nm] at hsp) <;>try subst hsp)) | ((with_reducible refine z8 ?_);first | refine oT ?_ | refine oF ?_ | (refine Or.inr (Or.inr ⟨fun hsp=>?_,fun hsp=>?_⟩) <;>(try simp only [nm] at hsp) <;>try subst hsp)) | ((refine sP (by rfl) ?_);first | refine oT ?_ | refine oF ?_ | (refine Or.inr (Or.inr ⟨fun hsp=>?_,fun hsp=>?_⟩) <;>(try simp only [nm] at hsp) <;>try subst hsp)) | refine sS (b7N (by rfl) (by omega) (by simp only [List.length_map];omega) (by rfl) (by decide)) ?_ | refine sS (b9Y (by rfl) (by rfl) d4 (by simp) (by simp)) ?_ | refine sS (c1b (by rfl) (by rfl) (by rfl) (by omega) (by simp only [List.length_map];omega) (by simp [d9.len]) (by rfl)) ?_ | refine sS (c4n (by rfl) (by rfl) d4 (by simp only [List.length_map];omega) (by simp only [List.length_map];omega)) ?_ | fail)
 all_goals (conv=>whnf)
 all_goals (refine o3 ?_;simp [b8X];first | done | omega | (rw [List.take_of_length_le];simp;omega))
end Go.Ab.Td

/- A part of the proof: the texts TdE. Under: nothing. -/
import Derived.Test.YtngmifmcohmfmaaDoorG16
set_option linter.unusedVariables false
namespace Go.Ab.Td
set_option maxRecDepth 100000
set_option maxRecDepth 100000
open Go Go.Ab
variable {P:Program}
set_option linter.unusedSimpArgs false
attribute [local irreducible] j6
set_option maxHeartbeats 1000000 in
theorem a6K (C:Laid P) (l:List Int) (k:Int) (hl:l.length<2 ^ 62):l9 P G C6 [.sl 1 (l.map fun x=>[pI x]),pI k] [] (pI (a4T k 0 l)):=by
 refine l7 C (Y3 C) rfl ?_
 repeat' ((conv=>whnf);first | (with_reducible refine sC (by kernel_rfl) ?_) | ((with_reducible refine sB ?_);first | refine oT ?_ | refine oF ?_ | (refine Or.inr (Or.inr ⟨fun hsp=>?_,fun hsp=>?_⟩) <;>(try simp only [nm] at hsp) <;>try subst hsp)) | ((with_reducible refine A2 ?_);first | refine oT ?_ | refine oF ?_ | (refine Or.inr (Or.inr ⟨fun hsp=>?_,fun hsp=>?_⟩) <;>(try simp only [nm] at hsp) <;>try subst hsp)) | ((with_reducible refine A3 ?_);first | refine oT ?_ | refine oF ?_ | (refine Or.inr (Or.inr ⟨fun hsp=>?_,fun hsp=>?_⟩) <;>(try simp only [nm] at hsp) <;>try subst hsp)) | ((refine sP (by rfl) ?_);first | refine oT ?_ | refine oF ?_ | (refine Or.inr (Or.inr ⟨fun hsp=>?_,fun hsp=>?_⟩) <;>(try simp only [nm] at hsp) <;>try subst hsp)) | fail)
 all_goals (conv=>whnf)
 intro X hX hW
 refine a6V hX (fun st (a:Nat)=>st.upd [(8,.pv (pI (a:Int)))] []) (fun a m=>a+m=l.length∧(a4T k 0 l=a4T k a (l.drop a))) 0 l.length (by (conv=>whnf);first | done | rfl) (by simp) ?_
 intro m i ih hI
 rcases a5u l i with ⟨x,hlt,hx⟩ | hge
 ·have hrow:=T4 (f:=fun x:Int=>[pI x]) hx
  have hd:=a4N hx
  have hI2:=hI.2
  rw [hd] at hI2
  simp only [a4T] at hI2
  repeat' ((conv=>whnf);first | (with_reducible refine sC (by kernel_rfl) ?_) | ((with_reducible refine sB ?_);first | refine oT ?_ | refine oF ?_ | (refine Or.inr (Or.inr ⟨fun hsp=>?_,fun hsp=>?_⟩) <;>(try simp only [nm,List.length_map] at hsp) <;>try subst hsp)) | ((with_reducible refine A2 ?_);first | refine oT ?_ | refine oF ?_ | (refine Or.inr (Or.inr ⟨fun hsp=>?_,fun hsp=>?_⟩) <;>(try simp only [nm,List.length_map] at hsp) <;>try subst hsp)) | ((with_reducible refine A3 ?_);first | refine oT ?_ | refine oF ?_ | (refine Or.inr (Or.inr ⟨fun hsp=>?_,fun hsp=>?_⟩) <;>(try simp only [nm,List.length_map] at hsp) <;>try subst hsp)) | ((refine sP (by rfl) ?_);first | refine oT ?_ | refine oF ?_ | (refine Or.inr (Or.inr ⟨fun hsp=>?_,fun hsp=>?_⟩) <;>(try simp only [nm,List.length_map] at hsp) <;>try subst hsp)) | refine sS (i4 (by rfl) (by rfl) (by omega) hrow) ?_ | fail)
  all_goals (conv=>whnf)
  all_goals first
   | (refine ih (m - 1) (i+1) _ (by omega) ⟨by (try dsimp only);omega,?_⟩ (by (conv=>whnf);first | done | rfl | (simp (disch:=omega) only [H8])))
   | (with_reducible first | refine z9 ?_ | refine L9 ?_ | refine J2 ?_)
   | (refine N7 ?_;simp only [nm])
   | refine le_of_eq ?_
  all_goals grind
 ·have hd:l.drop i=[]:=List.drop_eq_nil_of_le hge
  have hI2:=hI.2
  rw [hd] at hI2
  simp only [a4T] at hI2
  repeat' ((conv=>whnf);first | (with_reducible refine sC (by kernel_rfl) ?_) | ((with_reducible refine sB ?_);first | refine oT ?_ | refine oF ?_ | (refine Or.inr (Or.inr ⟨fun hsp=>?_,fun hsp=>?_⟩) <;>(try simp only [nm,List.length_map] at hsp) <;>try subst hsp)) | ((with_reducible refine A2 ?_);first | refine oT ?_ | refine oF ?_ | (refine Or.inr (Or.inr ⟨fun hsp=>?_,fun hsp=>?_⟩) <;>(try simp only [nm,List.length_map] at hsp) <;>try subst hsp)) | ((with_reducible refine A3 ?_);first | refine oT ?_ | refine oF ?_ | (refine Or.inr (Or.inr ⟨fun hsp=>?_,fun hsp=>?_⟩) <;>(try simp only [nm,List.length_map] at hsp) <;>try subst hsp)) | ((refine sP (by rfl) ?_);first | refine oT ?_ | refine oF ?_ | (refine Or.inr (Or.inr ⟨fun hsp=>?_,fun hsp=>?_⟩) <;>(try simp only [nm,List.length_map] at hsp) <;>try subst hsp)) | fail)
  all_goals (conv=>whnf)
  all_goals first
   | (with_reducible first | refine z9 ?_ | refine L9 ?_ | refine J2 ?_)
   | (refine N7 ?_;simp only [nm])
   | refine le_of_eq ?_
  all_goals grind
set_option maxHeartbeats 1000000 in
theorem a0v (C:Laid P) (l:List Int) (k:Int) (hl:l.length<2 ^ 62):l9 P G z7 [.sl 1 (l.map fun x=>[pI x]),pI k] [] (.bool (tt (k ∈ l))):=by
 refine l7 C (P1 C) rfl ?_
 repeat' ((conv=>whnf);first | (with_reducible refine sC (by kernel_rfl) ?_) | ((with_reducible refine sB ?_);first | refine oT ?_ | refine oF ?_ | (refine Or.inr (Or.inr ⟨fun hsp=>?_,fun hsp=>?_⟩) <;>(try simp only [nm] at hsp) <;>try subst hsp)) | ((with_reducible refine A2 ?_);first | refine oT ?_ | refine oF ?_ | (refine Or.inr (Or.inr ⟨fun hsp=>?_,fun hsp=>?_⟩) <;>(try simp only [nm] at hsp) <;>try subst hsp)) | ((with_reducible refine A3 ?_);first | refine oT ?_ | refine oF ?_ | (refine Or.inr (Or.inr ⟨fun hsp=>?_,fun hsp=>?_⟩) <;>(try simp only [nm] at hsp) <;>try subst hsp)) | ((refine sP (by rfl) ?_);first | refine oT ?_ | refine oF ?_ | (refine Or.inr (Or.inr ⟨fun hsp=>?_,fun hsp=>?_⟩) <;>(try simp only [nm] at hsp) <;>try subst hsp)) | refine ⟨_,_,a6K C _ _ hl,?_⟩ | fail)
 all_goals (conv=>whnf)
 all_goals (first | (with_reducible refine L9 ?_) | (with_reducible refine J2 ?_) | (refine N7 ?_;try simp (disch:=omega) only [nm,wrap_small])) <;>(exact b0Q k l 0)
set_option maxHeartbeats 1000000 in
theorem D6 (C:Laid P) (h:List Cl) (o:Ob) (ks:List Int) (ho:o.n<9223372036854775808) (hl:ks.length<2 ^ 62) (hv:R6 h o ks=0):l9 P G x9 [.sl 7 (List.map m9 h),aO o,.sl 1 (ks.map fun x=>[pI x])] [] (.s9 [.agg (.sl 7 (List.map m9 h)::m6 o),pI 0]):=by
 refine l7 C (a1p C) rfl ?_
 obtain ⟨hf,hk⟩:=b6P hv
 repeat' ((conv=>whnf);first | (with_reducible refine sC (by kernel_rfl) ?_) | ((with_reducible refine sB ?_);first | refine oT ?_ | refine oF ?_ | (refine Or.inr (Or.inr ⟨fun hsp=>?_,fun hsp=>?_⟩) <;>(try simp only [nm] at hsp) <;>try subst hsp)) | ((with_reducible refine A2 ?_);first | refine oT ?_ | refine oF ?_ | (refine Or.inr (Or.inr ⟨fun hsp=>?_,fun hsp=>?_⟩) <;>(try simp only [nm] at hsp) <;>try subst hsp)) | ((with_reducible refine A3 ?_);first | refine oT ?_ | refine oF ?_ | (refine Or.inr (Or.inr ⟨fun hsp=>?_,fun hsp=>?_⟩) <;>(try simp only [nm] at hsp) <;>try subst hsp)) | ((refine sP (by rfl) ?_);first | refine oT ?_ | refine oF ?_ | (refine Or.inr (Or.inr ⟨fun hsp=>?_,fun hsp=>?_⟩) <;>(try simp only [nm] at hsp) <;>try subst hsp)) | refine ⟨_,_,a6c C _ _ _ _ _ _ _ _ (by assumption),?_⟩ | refine ⟨_,_,a0v C _ _ hl,?_⟩ | fail)
 all_goals (conv=>whnf)
 all_goals (repeat' (first | (with_reducible exact PV.le.refl _) | exact PV.le.emp _ | exact LeL.nil | (with_reducible refine P3 ?_) | (with_reducible refine P2 ?_) | (refine LeL.cons ?_ ?_) | (with_reducible refine z9 ?_) | (with_reducible refine U6 ?_) | (with_reducible refine L9 ?_) | (with_reducible refine J2 ?_) | (with_reducible refine N1 ?_) | (refine N7 ?_))) <;>first | rfl | exact PV.le.refl _ | grind
set_option maxHeartbeats 1000000 in
theorem F8 (C:Laid P) (h:List Cl) (o:Ob) (ks:List Int) (ho:o.n<9223372036854775808) (hl:ks.length<2 ^ 62) (hv:R6 h o ks≠0):l9 P G x9 [.sl 7 (List.map m9 h),aO o,.sl 1 (ks.map fun x=>[pI x])] [] (.s9 [.agg (.sl 7 []::m6 L5),pI (R6 h o ks)]):=by
 refine l7 C (a1p C) rfl ?_
 have hb:=c0k hv
 repeat' ((conv=>whnf);first | (with_reducible refine sC (by kernel_rfl) ?_) | ((with_reducible refine sB ?_);first | refine oT ?_ | refine oF ?_ | (refine Or.inr (Or.inr ⟨fun hsp=>?_,fun hsp=>?_⟩) <;>(try simp only [nm] at hsp) <;>try subst hsp)) | ((with_reducible refine A2 ?_);first | refine oT ?_ | refine oF ?_ | (refine Or.inr (Or.inr ⟨fun hsp=>?_,fun hsp=>?_⟩) <;>(try simp only [nm] at hsp) <;>try subst hsp)) | ((with_reducible refine A3 ?_);first | refine oT ?_ | refine oF ?_ | (refine Or.inr (Or.inr ⟨fun hsp=>?_,fun hsp=>?_⟩) <;>(try simp only [nm] at hsp) <;>try subst hsp)) | ((refine sP (by rfl) ?_);first | refine oT ?_ | refine oF ?_ | (refine Or.inr (Or.inr ⟨fun hsp=>?_,fun hsp=>?_⟩) <;>(try simp only [nm] at hsp) <;>try subst hsp)) | refine ⟨_,_,a6c C _ _ _ _ _ _ _ _ (by assumption),?_⟩ | refine ⟨_,_,a0v C _ _ hl,?_⟩ | fail)
 all_goals (conv=>whnf)
 all_goals (first | (exfalso;grind) | ((repeat' (first | (with_reducible exact PV.le.refl _) | exact PV.le.emp _ | exact LeL.nil | (with_reducible refine P3 ?_) | (with_reducible refine P2 ?_) | (refine LeL.cons ?_ ?_) | (with_reducible refine z9 ?_) | (with_reducible refine U6 ?_) | (with_reducible refine L9 ?_) | (with_reducible refine J2 ?_) | (with_reducible refine N1 ?_) | (refine N7 ?_))) <;>first | rfl | exact PV.le.refl _ | grind))
set_option maxHeartbeats 1000000 in
theorem y7 (C:Laid P) (h:List Cl) (o:Ob) (h0:0≤o.ref) (h1:o.ref<h.length):l9 P G u2 [.agg (.sl 7 (List.map m9 h)::m6 o)] [] (aC (cellAt h o)):=by
 refine l7 C (a1a C) rfl ?_
 repeat' ((conv=>whnf);first | (with_reducible refine sC (by kernel_rfl) ?_) | ((with_reducible refine sB ?_);first | refine oT ?_ | refine oF ?_ | (refine Or.inr (Or.inr ⟨fun hsp=>?_,fun hsp=>?_⟩) <;>(try simp only [nm] at hsp) <;>try subst hsp)) | ((with_reducible refine A2 ?_);first | refine oT ?_ | refine oF ?_ | (refine Or.inr (Or.inr ⟨fun hsp=>?_,fun hsp=>?_⟩) <;>(try simp only [nm] at hsp) <;>try subst hsp)) | ((with_reducible refine A3 ?_);first | refine oT ?_ | refine oF ?_ | (refine Or.inr (Or.inr ⟨fun hsp=>?_,fun hsp=>?_⟩) <;>(try simp only [nm] at hsp) <;>try subst hsp)) | ((refine sP (by rfl) ?_);first | refine oT ?_ | refine oF ?_ | (refine Or.inr (Or.inr ⟨fun hsp=>?_,fun hsp=>?_⟩) <;>(try simp only [nm] at hsp) <;>try subst hsp)) | refine sS (i4 (by rfl) (by rfl) (by omega) (F2 (d:=cl0) (by omega) (by omega))) ?_ | fail)
 all_goals (conv=>whnf)
 all_goals (exact PV.le.refl _)
set_option maxHeartbeats 1000000 in
theorem a3i (C:Laid P) (h:List Cl) (o:Ob) (c:Cl) (h0:0≤o.ref) (h1:o.ref<h.length) (hl:h.length≤1000000):l9 P G w7 [.agg (.sl 7 (List.map m9 h)::m6 o),aC c] [] (.sl 7 (List.map m9 (h.set o.ref.toNat c))):=by
 refine l7 C (a1b C) rfl ?_
 repeat' ((conv=>whnf);first | (with_reducible refine sC (by kernel_rfl) ?_) | ((with_reducible refine sB ?_);first | refine oT ?_ | refine oF ?_ | (refine Or.inr (Or.inr ⟨fun hsp=>?_,fun hsp=>?_⟩) <;>(try simp only [nm] at hsp) <;>try subst hsp)) | ((with_reducible refine A2 ?_);first | refine oT ?_ | refine oF ?_ | (refine Or.inr (Or.inr ⟨fun hsp=>?_,fun hsp=>?_⟩) <;>(try simp only [nm] at hsp) <;>try subst hsp)) | ((with_reducible refine A3 ?_);first | refine oT ?_ | refine oF ?_ | (refine Or.inr (Or.inr ⟨fun hsp=>?_,fun hsp=>?_⟩) <;>(try simp only [nm] at hsp) <;>try subst hsp)) | ((refine sP (by rfl) ?_);first | refine oT ?_ | refine oF ?_ | (refine Or.inr (Or.inr ⟨fun hsp=>?_,fun hsp=>?_⟩) <;>(try simp only [nm] at hsp) <;>try subst hsp)) | refine sS (b6w (by rfl) (by omega) (by simp only [List.length_map];omega) (by rfl) (by decide)) ?_ | refine sS (b8N (by rfl) (by rfl) f0 (by simp) (by simp)) ?_ | refine sS (c0L (by rfl) (by rfl) (by rfl) (by omega) (by simp only [List.length_map];omega)) ?_ | refine sS (c1v (c:=c) (by rfl) (by rfl) (by omega) (fun _=>rfl) (by rfl) (by rfl) (by rfl)) ?_ | fail)
 all_goals (conv=>whnf)
 all_goals (refine N1 ?_;simp;exact List.take_of_length_le (by simp))
theorem E8 (C:Laid P) (h:List Cl) (o_k:Int) (o_e:Bool) (o_n:Int) (o_s:List UInt8) (o_r:Int) (o_f:Int) (o_l:Int) (c_k:Int) (c_b:List UInt8) (c_i:List Ob) (c_ks:List Ob) (c_vs:List Ob) (c_m:Int) (c_a:Int) (h0:0≤o_r) (h1:o_r<h.length) (hl:h.length≤1000000):l9 P G w7 [.agg [.sl 7 (List.map m9 h),.int .i64 o_k,.bool o_e,.int .i64 o_n,.str o_s,.int .i64 o_r,.int .i64 o_f,.int .i64 o_l],.agg [.int .i64 c_k,.str c_b,.sl 7 (List.map m6 c_i),.sl 7 (List.map m6 c_ks),.sl 7 (List.map m6 c_vs),.int .i64 c_m,.int .i64 c_a]] [] (.sl 7 (List.map m9 (h.set o_r.toNat (⟨c_k,c_b,c_i,c_ks,c_vs,c_m,c_a⟩:Cl)))):=a3i C h (⟨o_k,o_e,o_n,o_s,o_r,o_f,o_l⟩:Ob) (⟨c_k,c_b,c_i,c_ks,c_vs,c_m,c_a⟩:Cl) h0 h1 hl
set_option maxHeartbeats 1000000 in
theorem a1C (C:Laid P) (l x:List Ob) (i:Int) (h0:0≤i) (h1:i+x.length≤l.length) (hl:l.length≤1000000):l9 P G B2 [.sl 7 (List.map m6 l),pI i,.sl 7 (List.map m6 x)] [] (.sl 7 (List.map m6 (b7L l i.toNat x))):=by
 refine l7 C (U4 C) rfl ?_
 repeat' ((conv=>whnf);first | (with_reducible refine sC (by kernel_rfl) ?_) | ((with_reducible refine sB ?_);first | refine oT ?_ | refine oF ?_ | (refine Or.inr (Or.inr ⟨fun hsp=>?_,fun hsp=>?_⟩) <;>(try simp only [nm] at hsp) <;>try subst hsp)) | ((with_reducible refine A2 ?_);first | refine oT ?_ | refine oF ?_ | (refine Or.inr (Or.inr ⟨fun hsp=>?_,fun hsp=>?_⟩) <;>(try simp only [nm] at hsp) <;>try subst hsp)) | ((with_reducible refine A3 ?_);first | refine oT ?_ | refine oF ?_ | (refine Or.inr (Or.inr ⟨fun hsp=>?_,fun hsp=>?_⟩) <;>(try simp only [nm] at hsp) <;>try subst hsp)) | ((refine sP (by rfl) ?_);first | refine oT ?_ | refine oF ?_ | (refine Or.inr (Or.inr ⟨fun hsp=>?_,fun hsp=>?_⟩) <;>(try simp only [nm] at hsp) <;>try subst hsp)) | refine sS (b6w (by rfl) (by omega) (by simp only [List.length_map];omega) (by rfl) (by decide)) ?_ | refine sS (b8N (by rfl) (by rfl) f0 (by simp) (by simp)) ?_ | refine sS (b9E (by rfl) (by rfl) (by rfl) (by omega) (by simp only [List.length_map];omega) (by simp [g8.len]) (by rfl)) ?_ | refine sS (c3f (by rfl) (by rfl) f0 (by simp only [List.length_map];omega) (by simp only [List.length_map];omega)) ?_ | fail)
 all_goals (conv=>whnf)
 all_goals (refine N1 ?_;simp [b7L];first | done | omega | (rw [List.take_of_length_le];simp;omega))
end Go.Ab.Td

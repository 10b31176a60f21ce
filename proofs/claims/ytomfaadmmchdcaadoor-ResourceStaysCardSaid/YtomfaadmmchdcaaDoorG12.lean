/- A part of the proof: the texts TdE. Under: nothing. -/
import Derived.Test.YtomfaadmmchdcaaDoorG11
set_option linter.unusedVariables false
namespace Go.Ab.Td
set_option maxRecDepth 100000
set_option maxRecDepth 100000
open Go Go.Ab
variable {P:Program}
set_option linter.unusedSimpArgs false
attribute [local irreducible] g8
set_option maxHeartbeats 1000000 in
theorem a7h (C:Laid P) (l:List Int) (k:Int) (hl:l.length<2 ^ 62):l8 P G D2 [.sl 1 (l.map fun x=>[pI x]),pI k] [] (pI (a5p k 0 l)):=by
 refine j3 C (a0c C) rfl ?_
 repeat' ((conv=>whnf);first | (with_reducible refine sC (by kernel_rfl) ?_) | ((with_reducible refine sB ?_);first | refine oT ?_ | refine oF ?_ | (refine Or.inr (Or.inr ⟨fun hsp=>?_,fun hsp=>?_⟩) <;>(try simp only [nm] at hsp) <;>try subst hsp)) | ((with_reducible refine x4 ?_);first | refine oT ?_ | refine oF ?_ | (refine Or.inr (Or.inr ⟨fun hsp=>?_,fun hsp=>?_⟩) <;>(try simp only [nm] at hsp) <;>try subst hsp)) | ((with_reducible refine x5 ?_);first | refine oT ?_ | refine oF ?_ | (refine Or.inr (Or.inr ⟨fun hsp=>?_,fun hsp=>?_⟩) <;>(try simp only [nm] at hsp) <;>try subst hsp)) | ((refine sP (by rfl) ?_);first | refine oT ?_ | refine oF ?_ | (refine Or.inr (Or.inr ⟨fun hsp=>?_,fun hsp=>?_⟩) <;>(try simp only [nm] at hsp) <;>try subst hsp)) | fail)
 all_goals (conv=>whnf)
 intro X hX hW
 refine a7C hX (fun st (a:Nat)=>st.upd [(8,.pv (pI (a:Int)))] []) (fun a m=>a+m=l.length∧(a5p k 0 l=a5p k a (l.drop a))) 0 l.length (by (conv=>whnf);first | done | rfl) (by simp) ?_
 intro m i ih hI
 rcases a7o l i with ⟨x,hlt,hx⟩ | hge
 ·have hrow:=Y5 (f:=fun x:Int=>[pI x]) hx
  have hd:=a3J hx
  have hI2:=hI.2
  rw [hd] at hI2
  simp only [a5p] at hI2
  repeat' ((conv=>whnf);first | (with_reducible refine sC (by kernel_rfl) ?_) | ((with_reducible refine sB ?_);first | refine oT ?_ | refine oF ?_ | (refine Or.inr (Or.inr ⟨fun hsp=>?_,fun hsp=>?_⟩) <;>(try simp only [nm,List.length_map] at hsp) <;>try subst hsp)) | ((with_reducible refine x4 ?_);first | refine oT ?_ | refine oF ?_ | (refine Or.inr (Or.inr ⟨fun hsp=>?_,fun hsp=>?_⟩) <;>(try simp only [nm,List.length_map] at hsp) <;>try subst hsp)) | ((with_reducible refine x5 ?_);first | refine oT ?_ | refine oF ?_ | (refine Or.inr (Or.inr ⟨fun hsp=>?_,fun hsp=>?_⟩) <;>(try simp only [nm,List.length_map] at hsp) <;>try subst hsp)) | ((refine sP (by rfl) ?_);first | refine oT ?_ | refine oF ?_ | (refine Or.inr (Or.inr ⟨fun hsp=>?_,fun hsp=>?_⟩) <;>(try simp only [nm,List.length_map] at hsp) <;>try subst hsp)) | refine sS (e9 (by rfl) (by rfl) (by omega) hrow) ?_ | fail)
  all_goals (conv=>whnf)
  all_goals first
   | (refine ih (m - 1) (i+1) _ (by omega) ⟨by (try dsimp only);omega,?_⟩ (by (conv=>whnf);first | done | rfl | (simp (disch:=omega) only [V5])))
   | (with_reducible first | refine w8 ?_ | refine K8 ?_ | refine K1 ?_)
   | (refine K7 ?_;simp only [nm])
   | refine le_of_eq ?_
  all_goals grind
 ·have hd:l.drop i=[]:=List.drop_eq_nil_of_le hge
  have hI2:=hI.2
  rw [hd] at hI2
  simp only [a5p] at hI2
  repeat' ((conv=>whnf);first | (with_reducible refine sC (by kernel_rfl) ?_) | ((with_reducible refine sB ?_);first | refine oT ?_ | refine oF ?_ | (refine Or.inr (Or.inr ⟨fun hsp=>?_,fun hsp=>?_⟩) <;>(try simp only [nm,List.length_map] at hsp) <;>try subst hsp)) | ((with_reducible refine x4 ?_);first | refine oT ?_ | refine oF ?_ | (refine Or.inr (Or.inr ⟨fun hsp=>?_,fun hsp=>?_⟩) <;>(try simp only [nm,List.length_map] at hsp) <;>try subst hsp)) | ((with_reducible refine x5 ?_);first | refine oT ?_ | refine oF ?_ | (refine Or.inr (Or.inr ⟨fun hsp=>?_,fun hsp=>?_⟩) <;>(try simp only [nm,List.length_map] at hsp) <;>try subst hsp)) | ((refine sP (by rfl) ?_);first | refine oT ?_ | refine oF ?_ | (refine Or.inr (Or.inr ⟨fun hsp=>?_,fun hsp=>?_⟩) <;>(try simp only [nm,List.length_map] at hsp) <;>try subst hsp)) | fail)
  all_goals (conv=>whnf)
  all_goals first
   | (with_reducible first | refine w8 ?_ | refine K8 ?_ | refine K1 ?_)
   | (refine K7 ?_;simp only [nm])
   | refine le_of_eq ?_
  all_goals grind
set_option maxHeartbeats 1000000 in
theorem a0T (C:Laid P) (l:List Int) (k:Int) (hl:l.length<2 ^ 62):l8 P G A0 [.sl 1 (l.map fun x=>[pI x]),pI k] [] (.bool (tt (k ∈ l))):=by
 refine j3 C (Q7 C) rfl ?_
 repeat' ((conv=>whnf);first | (with_reducible refine sC (by kernel_rfl) ?_) | ((with_reducible refine sB ?_);first | refine oT ?_ | refine oF ?_ | (refine Or.inr (Or.inr ⟨fun hsp=>?_,fun hsp=>?_⟩) <;>(try simp only [nm] at hsp) <;>try subst hsp)) | ((with_reducible refine x4 ?_);first | refine oT ?_ | refine oF ?_ | (refine Or.inr (Or.inr ⟨fun hsp=>?_,fun hsp=>?_⟩) <;>(try simp only [nm] at hsp) <;>try subst hsp)) | ((with_reducible refine x5 ?_);first | refine oT ?_ | refine oF ?_ | (refine Or.inr (Or.inr ⟨fun hsp=>?_,fun hsp=>?_⟩) <;>(try simp only [nm] at hsp) <;>try subst hsp)) | ((refine sP (by rfl) ?_);first | refine oT ?_ | refine oF ?_ | (refine Or.inr (Or.inr ⟨fun hsp=>?_,fun hsp=>?_⟩) <;>(try simp only [nm] at hsp) <;>try subst hsp)) | refine ⟨_,_,a7h C _ _ hl,?_⟩ | fail)
 all_goals (conv=>whnf)
 all_goals (first | (with_reducible refine K8 ?_) | (with_reducible refine K1 ?_) | (refine K7 ?_;try simp (disch:=omega) only [nm,wrap_small])) <;>(exact b2f k l 0)
set_option maxHeartbeats 1000000 in
theorem D8 (C:Laid P) (h:List Cl) (o:Ob) (ks:List Int) (ho:o.n<9223372036854775808) (hl:ks.length<2 ^ 62) (hv:N2 h o ks=0):l8 P G x9 [.sl 7 (List.map j6 h),aO o,.sl 1 (ks.map fun x=>[pI x])] [] (.p7 [.agg (.sl 7 (List.map j6 h)::i4 o),pI 0]):=by
 refine j3 C (a1I C) rfl ?_
 obtain ⟨hf,hk⟩:=b8Y hv
 repeat' ((conv=>whnf);first | (with_reducible refine sC (by kernel_rfl) ?_) | ((with_reducible refine sB ?_);first | refine oT ?_ | refine oF ?_ | (refine Or.inr (Or.inr ⟨fun hsp=>?_,fun hsp=>?_⟩) <;>(try simp only [nm] at hsp) <;>try subst hsp)) | ((with_reducible refine x4 ?_);first | refine oT ?_ | refine oF ?_ | (refine Or.inr (Or.inr ⟨fun hsp=>?_,fun hsp=>?_⟩) <;>(try simp only [nm] at hsp) <;>try subst hsp)) | ((with_reducible refine x5 ?_);first | refine oT ?_ | refine oF ?_ | (refine Or.inr (Or.inr ⟨fun hsp=>?_,fun hsp=>?_⟩) <;>(try simp only [nm] at hsp) <;>try subst hsp)) | ((refine sP (by rfl) ?_);first | refine oT ?_ | refine oF ?_ | (refine Or.inr (Or.inr ⟨fun hsp=>?_,fun hsp=>?_⟩) <;>(try simp only [nm] at hsp) <;>try subst hsp)) | refine ⟨_,_,a6D C _ _ _ _ _ _ _ _ (by assumption),?_⟩ | refine ⟨_,_,a0T C _ _ hl,?_⟩ | fail)
 all_goals (conv=>whnf)
 all_goals (repeat' (first | (with_reducible exact PV.le.refl _) | exact PV.le.emp _ | exact N8.nil | (with_reducible refine G2 ?_) | (with_reducible refine M0 ?_) | (refine N8.cons ?_ ?_) | (with_reducible refine w8 ?_) | (with_reducible refine Q8 ?_) | (with_reducible refine K8 ?_) | (with_reducible refine K1 ?_) | (with_reducible refine G1 ?_) | (refine K7 ?_))) <;>first | rfl | exact PV.le.refl _ | grind
set_option maxHeartbeats 1000000 in
theorem G6 (C:Laid P) (h:List Cl) (o:Ob) (ks:List Int) (ho:o.n<9223372036854775808) (hl:ks.length<2 ^ 62) (hv:N2 h o ks≠0):l8 P G x9 [.sl 7 (List.map j6 h),aO o,.sl 1 (ks.map fun x=>[pI x])] [] (.p7 [.agg (.sl 7 []::i4 A2),pI (N2 h o ks)]):=by
 refine j3 C (a1I C) rfl ?_
 have hb:=c2y hv
 repeat' ((conv=>whnf);first | (with_reducible refine sC (by kernel_rfl) ?_) | ((with_reducible refine sB ?_);first | refine oT ?_ | refine oF ?_ | (refine Or.inr (Or.inr ⟨fun hsp=>?_,fun hsp=>?_⟩) <;>(try simp only [nm] at hsp) <;>try subst hsp)) | ((with_reducible refine x4 ?_);first | refine oT ?_ | refine oF ?_ | (refine Or.inr (Or.inr ⟨fun hsp=>?_,fun hsp=>?_⟩) <;>(try simp only [nm] at hsp) <;>try subst hsp)) | ((with_reducible refine x5 ?_);first | refine oT ?_ | refine oF ?_ | (refine Or.inr (Or.inr ⟨fun hsp=>?_,fun hsp=>?_⟩) <;>(try simp only [nm] at hsp) <;>try subst hsp)) | ((refine sP (by rfl) ?_);first | refine oT ?_ | refine oF ?_ | (refine Or.inr (Or.inr ⟨fun hsp=>?_,fun hsp=>?_⟩) <;>(try simp only [nm] at hsp) <;>try subst hsp)) | refine ⟨_,_,a6D C _ _ _ _ _ _ _ _ (by assumption),?_⟩ | refine ⟨_,_,a0T C _ _ hl,?_⟩ | fail)
 all_goals (conv=>whnf)
 all_goals (first | (exfalso;grind) | ((repeat' (first | (with_reducible exact PV.le.refl _) | exact PV.le.emp _ | exact N8.nil | (with_reducible refine G2 ?_) | (with_reducible refine M0 ?_) | (refine N8.cons ?_ ?_) | (with_reducible refine w8 ?_) | (with_reducible refine Q8 ?_) | (with_reducible refine K8 ?_) | (with_reducible refine K1 ?_) | (with_reducible refine G1 ?_) | (refine K7 ?_))) <;>first | rfl | exact PV.le.refl _ | grind))
set_option maxHeartbeats 1000000 in
theorem z7 (C:Laid P) (h:List Cl) (o:Ob) (h0:0≤o.ref) (h1:o.ref<h.length):l8 P G u4 [.agg (.sl 7 (List.map j6 h)::i4 o)] [] (aC (cellAt h o)):=by
 refine j3 C (a1w C) rfl ?_
 repeat' ((conv=>whnf);first | (with_reducible refine sC (by kernel_rfl) ?_) | ((with_reducible refine sB ?_);first | refine oT ?_ | refine oF ?_ | (refine Or.inr (Or.inr ⟨fun hsp=>?_,fun hsp=>?_⟩) <;>(try simp only [nm] at hsp) <;>try subst hsp)) | ((with_reducible refine x4 ?_);first | refine oT ?_ | refine oF ?_ | (refine Or.inr (Or.inr ⟨fun hsp=>?_,fun hsp=>?_⟩) <;>(try simp only [nm] at hsp) <;>try subst hsp)) | ((with_reducible refine x5 ?_);first | refine oT ?_ | refine oF ?_ | (refine Or.inr (Or.inr ⟨fun hsp=>?_,fun hsp=>?_⟩) <;>(try simp only [nm] at hsp) <;>try subst hsp)) | ((refine sP (by rfl) ?_);first | refine oT ?_ | refine oF ?_ | (refine Or.inr (Or.inr ⟨fun hsp=>?_,fun hsp=>?_⟩) <;>(try simp only [nm] at hsp) <;>try subst hsp)) | refine sS (e9 (by rfl) (by rfl) (by omega) (l6 (d:=cl0) (by omega) (by omega))) ?_ | fail)
 all_goals (conv=>whnf)
 all_goals (exact PV.le.refl _)
set_option maxHeartbeats 1000000 in
theorem a3S (C:Laid P) (h:List Cl) (o:Ob) (c:Cl) (h0:0≤o.ref) (h1:o.ref<h.length) (hl:h.length≤1000000):l8 P G w6 [.agg (.sl 7 (List.map j6 h)::i4 o),aC c] [] (.sl 7 (List.map j6 (h.set o.ref.toNat c))):=by
 refine j3 C (a1x C) rfl ?_
 repeat' ((conv=>whnf);first | (with_reducible refine sC (by kernel_rfl) ?_) | ((with_reducible refine sB ?_);first | refine oT ?_ | refine oF ?_ | (refine Or.inr (Or.inr ⟨fun hsp=>?_,fun hsp=>?_⟩) <;>(try simp only [nm] at hsp) <;>try subst hsp)) | ((with_reducible refine x4 ?_);first | refine oT ?_ | refine oF ?_ | (refine Or.inr (Or.inr ⟨fun hsp=>?_,fun hsp=>?_⟩) <;>(try simp only [nm] at hsp) <;>try subst hsp)) | ((with_reducible refine x5 ?_);first | refine oT ?_ | refine oF ?_ | (refine Or.inr (Or.inr ⟨fun hsp=>?_,fun hsp=>?_⟩) <;>(try simp only [nm] at hsp) <;>try subst hsp)) | ((refine sP (by rfl) ?_);first | refine oT ?_ | refine oF ?_ | (refine Or.inr (Or.inr ⟨fun hsp=>?_,fun hsp=>?_⟩) <;>(try simp only [nm] at hsp) <;>try subst hsp)) | refine sS (b8D (by rfl) (by omega) (by simp only [List.length_map];omega) (by rfl) (by decide)) ?_ | refine sS (c0V (by rfl) (by rfl) b7 (by simp) (by simp)) ?_ | refine sS (b1v (by rfl) (by rfl) (by rfl) (by omega) (by simp only [List.length_map];omega)) ?_ | refine sS (b1J (c:=c) (by rfl) (by rfl) (by omega) (fun _=>rfl) (by rfl) (by rfl) (by rfl)) ?_ | fail)
 all_goals (conv=>whnf)
 all_goals (refine G1 ?_;simp;exact List.take_of_length_le (by simp))
theorem F2 (C:Laid P) (h:List Cl) (o_k:Int) (o_e:Bool) (o_n:Int) (o_s:List UInt8) (o_r:Int) (o_f:Int) (o_l:Int) (c_k:Int) (c_b:List UInt8) (c_i:List Ob) (c_ks:List Ob) (c_vs:List Ob) (c_m:Int) (c_a:Int) (h0:0≤o_r) (h1:o_r<h.length) (hl:h.length≤1000000):l8 P G w6 [.agg [.sl 7 (List.map j6 h),.int .i64 o_k,.bool o_e,.int .i64 o_n,.str o_s,.int .i64 o_r,.int .i64 o_f,.int .i64 o_l],.agg [.int .i64 c_k,.str c_b,.sl 7 (List.map i4 c_i),.sl 7 (List.map i4 c_ks),.sl 7 (List.map i4 c_vs),.int .i64 c_m,.int .i64 c_a]] [] (.sl 7 (List.map j6 (h.set o_r.toNat (⟨c_k,c_b,c_i,c_ks,c_vs,c_m,c_a⟩:Cl)))):=a3S C h (⟨o_k,o_e,o_n,o_s,o_r,o_f,o_l⟩:Ob) (⟨c_k,c_b,c_i,c_ks,c_vs,c_m,c_a⟩:Cl) h0 h1 hl
set_option maxHeartbeats 1000000 in
theorem a2a (C:Laid P) (l x:List Ob) (i:Int) (h0:0≤i) (h1:i+x.length≤l.length) (hl:l.length≤1000000):l8 P G C1 [.sl 7 (List.map i4 l),pI i,.sl 7 (List.map i4 x)] [] (.sl 7 (List.map i4 (b9S l i.toNat x))):=by
 refine j3 C (W1 C) rfl ?_
 repeat' ((conv=>whnf);first | (with_reducible refine sC (by kernel_rfl) ?_) | ((with_reducible refine sB ?_);first | refine oT ?_ | refine oF ?_ | (refine Or.inr (Or.inr ⟨fun hsp=>?_,fun hsp=>?_⟩) <;>(try simp only [nm] at hsp) <;>try subst hsp)) | ((with_reducible refine x4 ?_);first | refine oT ?_ | refine oF ?_ | (refine Or.inr (Or.inr ⟨fun hsp=>?_,fun hsp=>?_⟩) <;>(try simp only [nm] at hsp) <;>try subst hsp)) | ((with_reducible refine x5 ?_);first | refine oT ?_ | refine oF ?_ | (refine Or.inr (Or.inr ⟨fun hsp=>?_,fun hsp=>?_⟩) <;>(try simp only [nm] at hsp) <;>try subst hsp)) | ((refine sP (by rfl) ?_);first | refine oT ?_ | refine oF ?_ | (refine Or.inr (Or.inr ⟨fun hsp=>?_,fun hsp=>?_⟩) <;>(try simp only [nm] at hsp) <;>try subst hsp)) | refine sS (b8D (by rfl) (by omega) (by simp only [List.length_map];omega) (by rfl) (by decide)) ?_ | refine sS (c0V (by rfl) (by rfl) b7 (by simp) (by simp)) ?_ | refine sS (c1Q (by rfl) (by rfl) (by rfl) (by omega) (by simp only [List.length_map];omega) (by simp [e6.len]) (by rfl)) ?_ | refine sS (c5j (by rfl) (by rfl) b7 (by simp only [List.length_map];omega) (by simp only [List.length_map];omega)) ?_ | fail)
 all_goals (conv=>whnf)
 all_goals (refine G1 ?_;simp [b9S];first | done | omega | (rw [List.take_of_length_le];simp;omega))
end Go.Ab.Td

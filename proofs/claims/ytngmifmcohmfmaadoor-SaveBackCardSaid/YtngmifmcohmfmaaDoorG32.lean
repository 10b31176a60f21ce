/- A part of the proof: the texts TdUa, TdUb. Under: nothing. -/
import Derived.Test.YtngmifmcohmfmaaDoorG14
import Derived.Test.YtngmifmcohmfmaaDoorG22
set_option linter.unusedVariables false
namespace Go.Ab.Td
set_option maxRecDepth 100000
set_option maxRecDepth 100000
open Go Go.Ab
variable {P:Program}
set_option linter.unusedSimpArgs false
attribute [local irreducible] e9
set_option maxHeartbeats 1000000 in
theorem b3K (C:Laid P) (o:Ob) (n:Int):j4 P G a2b [aO o,pI n] [] (.bool (tt (n7 n o))):=by
 refine i5 C (b4B C) rfl ?_
 repeat' ((conv=>whnf);first | (with_reducible refine sC (by kernel_rfl) ?_) | ((first | (with_reducible first | refine sB ?_ | refine o5 ?_ | refine o6 ?_) | refine sP (by rfl) ?_);first | refine oT ?_ | refine oF ?_ | (refine Or.inr (Or.inr ⟨fun hsp=>?_,fun hsp=>?_⟩) <;>(try simp only [nm] at hsp) <;>try subst hsp)) | refine ⟨_,_,a7y C o.kind o.exec o.n o.name o.ref o.off o.len,?_⟩ | fail)
 all_goals (conv=>whnf)
 all_goals (first | (with_reducible refine A0 ?_) | (with_reducible refine y3 ?_) | (refine A3 ?_;try simp (disch:=omega) only [nm,wrap_small])) <;>(grind [n7,Ob.comp])
set_option maxHeartbeats 1000000 in
theorem O3 (C:Laid P) (l:List Ob) (n:Int) (hl:l.length<2 ^ 62):j4 P G Z5 [.sl 7 (List.map i4 l),pI n] [] (.bool (tt (∃ o ∈ l,n7 n o))):=by
 refine i5 C (b4D C) rfl ?_
 repeat' ((conv=>whnf);first | (with_reducible refine sC (by kernel_rfl) ?_) | ((first | (with_reducible first | refine sB ?_ | refine o5 ?_ | refine o6 ?_) | refine sP (by rfl) ?_);first | refine oT ?_ | refine oF ?_ | (refine Or.inr (Or.inr ⟨fun hsp=>?_,fun hsp=>?_⟩) <;>(try simp only [nm] at hsp) <;>try subst hsp)) | fail)
 all_goals (conv=>whnf)
 intro X hX hW
 refine a2s hX (fun st (i:Nat)=>st.upd [(5,.pv (pI (i:Int)))] []) (fun i k=>i+k=l.length∧∀ j,j<i→∀ o,l[j]?=some o→¬ n7 n o) 0 l.length (by (conv=>whnf);first | done | rfl) ⟨by simp,by intro j hj;omega⟩ ?_
 intro m i ih hI
 rcases a0J l i with ⟨x,hlt,hx⟩ | hge
 ·have hrow:=y9 (f:=i4) hx
  have kN:=b3K C x n
  by_cases hp:n7 n x
  ·rw [show tt (n7 n x)=true from Q8.mpr hp] at kN
   repeat' ((conv=>whnf);first | (with_reducible refine sC (by kernel_rfl) ?_) | ((first | (with_reducible first | refine sB ?_ | refine o5 ?_ | refine o6 ?_) | refine sP (by rfl) ?_);first | refine oT ?_ | refine oF ?_ | (refine Or.inr (Or.inr ⟨fun hsp=>?_,fun hsp=>?_⟩) <;>(try simp only [nm,List.length_map] at hsp) <;>try subst hsp)) | refine ⟨_,_,kN,?_⟩ | refine sS (e7 (by rfl) (by rfl) (by omega) hrow) ?_ | fail)
   all_goals (conv=>whnf)
   all_goals exact A0 ⟨x,List.mem_of_getElem? hx,hp⟩
  ·rw [show tt (n7 n x)=false from I2.mpr hp] at kN
   repeat' ((conv=>whnf);first | (with_reducible refine sC (by kernel_rfl) ?_) | ((first | (with_reducible first | refine sB ?_ | refine o5 ?_ | refine o6 ?_) | refine sP (by rfl) ?_);first | refine oT ?_ | refine oF ?_ | (refine Or.inr (Or.inr ⟨fun hsp=>?_,fun hsp=>?_⟩) <;>(try simp only [nm,List.length_map] at hsp) <;>try subst hsp)) | refine ⟨_,_,kN,?_⟩ | refine sS (e7 (by rfl) (by rfl) (by omega) hrow) ?_ | fail)
   all_goals (conv=>whnf)
   all_goals (refine ih (m - 1) (i+1) _ (by omega) ⟨by (try dsimp only);omega,?_⟩ (by (conv=>whnf);first | done | rfl | (simp (disch:=omega) only [A7])))
   all_goals (intro j hj o ho;by_cases e:j<i;(·exact hI.2 j e o ho);have e2:j=i:=(by omega);subst e2;rw [hx] at ho;cases ho;exact hp)
 ·repeat' ((conv=>whnf);first | (with_reducible refine sC (by kernel_rfl) ?_) | ((first | (with_reducible first | refine sB ?_ | refine o5 ?_ | refine o6 ?_) | refine sP (by rfl) ?_);first | refine oT ?_ | refine oF ?_ | (refine Or.inr (Or.inr ⟨fun hsp=>?_,fun hsp=>?_⟩) <;>(try simp only [nm,List.length_map] at hsp) <;>try subst hsp)) | fail)
  all_goals (conv=>whnf)
  all_goals (refine y3 ?_;rintro ⟨o,ho,hp⟩;obtain ⟨q,hq⟩:=List.getElem?_of_mem ho;exact hI.2 q (by have:=(List.getElem?_eq_some_iff.1 hq).1;omega) o hq hp)
set_option maxHeartbeats 1000000 in
theorem a1f (C:Laid P) (s:v9) (l:List Sn) (n:Int) (hq:s.f3=l.map w7) (hl:l.length≤1000000):j4 P G a2c [aS s,pI n] [] (pI (plF n 0 l)):=by
 refine i5 C (b4C C) rfl ?_
 have hlen:s.f3.length=l.length:=by rw [hq,List.length_map]
 repeat' ((conv=>whnf);first | (with_reducible refine sC (by kernel_rfl) ?_) | ((first | (with_reducible first | refine sB ?_ | refine o5 ?_ | refine o6 ?_) | refine sP (by rfl) ?_);first | refine Or.inl ⟨by first | assumption | (simp only [nm,hlen];first | done | assumption | omega),?_⟩ | refine Or.inr (Or.inl ⟨by first | assumption | (simp only [nm,hlen];first | done | assumption | omega),?_⟩) | (refine Or.inr (Or.inr ⟨fun hsp=>?_,fun hsp=>?_⟩) <;>(try simp only [nm,hlen] at hsp) <;>try subst hsp)) | fail)
 all_goals (conv=>whnf)
 intro X hX hW
 refine a2s hX (fun st (i:Nat)=>st.upd [(5,.pv (pI (i:Int)))] []) (fun i k=>i+k=l.length∧plF n 0 l=plF n i (l.drop i)) 0 l.length (by (conv=>whnf);first | done | rfl) ⟨by simp,by simp⟩ ?_
 intro m i ih hI
 rcases a0J l i with ⟨x,hlt,hx⟩ | hge
 ·have hrow:s.f3[(i:Int).toNat]?=some (w7 x):=by rw [hq];exact y9 (f:=w7) hx
  have hd:=W1 hx
  have hI2:=hI.2
  rw [hd] at hI2
  simp only [plF] at hI2
  by_cases hn:x.n=n
  ·rw [if_pos hn] at hI2
   rw [hI2]
   repeat' ((conv=>whnf);first | (with_reducible refine sC (by kernel_rfl) ?_) | ((first | (with_reducible first | refine sB ?_ | refine o5 ?_ | refine o6 ?_) | refine sP (by rfl) ?_);first | refine Or.inl ⟨by first | assumption | (simp only [nm,hlen];first | done | assumption | omega),?_⟩ | refine Or.inr (Or.inl ⟨by first | assumption | (simp only [nm,hlen];first | done | assumption | omega),?_⟩) | (refine Or.inr (Or.inr ⟨fun hsp=>?_,fun hsp=>?_⟩) <;>(try simp only [nm,hlen] at hsp) <;>try subst hsp)) | refine sS (e7 (by rfl) (by rfl) (by omega) hrow) ?_ | fail)
   all_goals (conv=>whnf)
   all_goals exact PV.le.refl _
  ·rw [if_neg hn] at hI2
   repeat' ((conv=>whnf);first | (with_reducible refine sC (by kernel_rfl) ?_) | ((first | (with_reducible first | refine sB ?_ | refine o5 ?_ | refine o6 ?_) | refine sP (by rfl) ?_);first | refine Or.inl ⟨by first | assumption | (simp only [nm,hlen];first | done | assumption | omega),?_⟩ | refine Or.inr (Or.inl ⟨by first | assumption | (simp only [nm,hlen];first | done | assumption | omega),?_⟩) | (refine Or.inr (Or.inr ⟨fun hsp=>?_,fun hsp=>?_⟩) <;>(try simp only [nm,hlen] at hsp) <;>try subst hsp)) | refine sS (e7 (by rfl) (by rfl) (by omega) hrow) ?_ | fail)
   all_goals (conv=>whnf)
   all_goals (refine ih (m - 1) (i+1) _ (by omega) ⟨by (try dsimp only);omega,hI2⟩ (by (conv=>whnf);first | done | rfl | (simp (disch:=omega) only [A7])))
 ·have hd:l.drop i=[]:=List.drop_eq_nil_of_le hge
  have hI2:=hI.2
  rw [hd] at hI2
  simp only [plF] at hI2
  rw [hI2]
  repeat' ((conv=>whnf);first | (with_reducible refine sC (by kernel_rfl) ?_) | ((first | (with_reducible first | refine sB ?_ | refine o5 ?_ | refine o6 ?_) | refine sP (by rfl) ?_);first | refine Or.inl ⟨by first | assumption | (simp only [nm,hlen];first | done | assumption | omega),?_⟩ | refine Or.inr (Or.inl ⟨by first | assumption | (simp only [nm,hlen];first | done | assumption | omega),?_⟩) | (refine Or.inr (Or.inr ⟨fun hsp=>?_,fun hsp=>?_⟩) <;>(try simp only [nm,hlen] at hsp) <;>try subst hsp)) | fail)
  all_goals (conv=>whnf)
  all_goals exact PV.le.refl _
end Go.Ab.Td
namespace Go.Ab.Td
set_option maxRecDepth 100000
set_option maxRecDepth 100000
open Go Go.Ab
variable {P:Program}
set_option linter.unusedSimpArgs false
attribute [local irreducible] e9
set_option maxHeartbeats 8000000 in
theorem b2j (C:Laid P) (s:v9) (h:10≤s.f3.length∨20≤s.f62.length):j4 P G B1 [aS s,.str [115,97,118,101]] [] (.x6 [aS s,pI 26]):=by
 refine i5 C (H5 C) rfl ?_
 repeat' ((conv=>whnf);first | (with_reducible refine sC (by kernel_rfl) ?_) | ((first | (with_reducible first | refine sB ?_ | refine o5 ?_ | refine o6 ?_) | refine sP (by rfl) ?_);first | refine oT ?_ | refine oF ?_ | (refine Or.inr (Or.inr ⟨fun hsp=>?_,fun hsp=>?_⟩) <;>(try simp only [nm,List.length_map] at hsp) <;>try subst hsp)) | fail)
 all_goals (conv=>whnf)
 all_goals (first | exact PV.le.refl _ | (exfalso;omega))
set_option maxHeartbeats 8000000 in
theorem b7Y (C:Laid P) (s:v9) (l:List Sn) (ts:List v9) (hq:s.f3=l.map w7) (h62:s.f62=ts.map grO) (h3:l.length<10) (ht:ts.length<20) (ho:s.ops.length<100):j4 P G B1 [aS s,.str [115,97,118,101]] [] (.x6 [aS (svS s),pI 0]):=by
 refine i5 C (H5 C) rfl ?_
 have hl3:s.f3.length=l.length:=by rw [hq,List.length_map]
 have hl62:s.f62.length=ts.length:=by rw [h62,List.length_map]
 have kI:=G7 C s 0 [svO (IntKind.i64.wrap (s.f4+1))] (by decide) (by omega) (by simp;omega) (by omega) (by simp)
 rw [show s.ops.take (s.ops.length - (0:Int).toNat)=s.ops by simp] at kI
 repeat' ((conv=>whnf);first | (with_reducible refine sC (by kernel_rfl) ?_) | ((first | (with_reducible first | refine sB ?_ | refine o5 ?_ | refine o6 ?_) | refine sP (by rfl) ?_);first | refine Or.inl ⟨by first | assumption | (simp only [nm,List.length_map,hl3,hl62];first | done | assumption | omega),?_⟩ | refine Or.inr (Or.inl ⟨by first | assumption | (simp only [nm,List.length_map,hl3,hl62];first | done | assumption | omega),?_⟩) | (refine Or.inr (Or.inr ⟨fun hsp=>?_,fun hsp=>?_⟩) <;>(try simp only [nm,List.length_map,hl3,hl62] at hsp) <;>try subst hsp)) | refine ⟨_,_,kI,?_⟩ | refine sS (o3 (f:=w7) (x':=l) (by rfl) (by first | exact f0 | exact d8 | exact d9 (by rfl) (by rfl)) hq (by (try simp only [ln]);omega)) ?_ | refine sS (m0 (f:=w7) (l:=l) (x':=[(⟨IntKind.i64.wrap (s.f4+1),s.heap,(s.f62.length:Int)⟩:Sn)]) (by rfl) (by rfl) (by first | rfl | simp) (by first | exact f0 | exact d8 | exact d9 (by rfl) (by rfl)) (by rfl) (by (try simp only [ln]);omega)) ?_ | refine sS (o3 (f:=grO) (x':=ts) (by rfl) (by first | exact f0 | exact d8 | exact d9 (by rfl) (by rfl)) h62 (by (try simp only [ln]);omega)) ?_ | refine sS (m0 (f:=grO) (l:=ts) (x':=[s]) (by rfl) (by rfl) (by first | rfl | simp) (by first | exact f0 | exact d8 | exact d9 (by rfl) (by rfl)) (by rfl) (by (try simp only [ln]);omega)) ?_ | fail)
 all_goals (conv=>whnf)
 all_goals ((repeat' (first | (with_reducible exact PV.le.refl _) | exact PV.le.emp _ | exact I3.nil | (with_reducible refine w5 ?_) | (with_reducible refine p8 ?_) | (refine I3.cons ?_ ?_) | (with_reducible refine j9 ?_) | (with_reducible refine x8 ?_) | (with_reducible refine A0 ?_) | (with_reducible refine y3 ?_) | (with_reducible refine q9 ?_) | (refine A3 ?_))) <;>(first | rfl | exact PV.le.refl _ | (rw [a2f (by simp)];simp [svS,w7,hq];done) | (rw [a2f (by simp)];simp [svS,h62];done) | (simp [grO,svS,svO,w7,hq,h62];done) | (refine le_of_eq ?_;simp [grO,svS,svO,w7,hq,h62];done)))
end Go.Ab.Td

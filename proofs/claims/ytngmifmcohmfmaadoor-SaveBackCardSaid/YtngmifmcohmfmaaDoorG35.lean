/- A part of the proof: the texts TdUg, TdUh, TdUi. Under: nothing. -/
import Derived.Test.YtngmifmcohmfmaaDoorG34
set_option linter.unusedVariables false
namespace Go.Ab.Td
set_option maxRecDepth 100000
set_option maxRecDepth 100000
open Go Go.Ab
variable {P:Program}
set_option linter.unusedSimpArgs false
attribute [local irreducible] e9
set_option maxHeartbeats 8000000 in
theorem c1J (C:Laid P) (s:v9) (hh:s.heap.length≤1000) (ho:s.ops.length≤97):j4 P G B1 [aS s,.str [118,109,115,116,97,116,117,115]] [] (.x6 [aS {s with ops:=s.ops++vmL s},pI 0]):=by
 refine i5 C (H5 C) rfl ?_
 have kP:=G7 C s 0 (vmL s) (by decide) (by omega) (by show (s.ops.length:Int) - 0+((3:Nat):Int)≤100;omega) (by omega) (by show 3≤1000000;decide)
 rw [show s.ops.take (s.ops.length - (0:Int).toNat)=s.ops by simp] at kP
 repeat' ((conv=>whnf);first | (with_reducible refine sC (by kernel_rfl) ?_) | ((first | (with_reducible first | refine sB ?_ | refine o5 ?_ | refine o6 ?_) | refine sP (by rfl) ?_);first | refine oT ?_ | refine oF ?_ | (refine Or.inr (Or.inr ⟨fun hsp=>?_,fun hsp=>?_⟩) <;>(try simp only [nm,List.length_map] at hsp) <;>try subst hsp)) | refine ⟨_,_,b0k C _,?_⟩ | refine ⟨_,_,a7z C s.heap (by omega),?_⟩ | refine ⟨_,_,kP,?_⟩ | fail)
 all_goals (conv=>whnf)
 all_goals (first | exact PV.le.refl _ | (exfalso;omega) | ((repeat' (first | (with_reducible exact PV.le.refl _) | exact PV.le.emp _ | exact I3.nil | (with_reducible refine w5 ?_) | (with_reducible refine p8 ?_) | (refine I3.cons ?_ ?_) | (with_reducible refine j9 ?_) | (with_reducible refine x8 ?_) | (with_reducible refine A0 ?_) | (with_reducible refine y3 ?_) | (with_reducible refine q9 ?_) | (refine A3 ?_))) <;>(first | rfl | exact PV.le.refl _ | (simp;done) | (refine le_of_eq ?_;simp;done))))
set_option maxHeartbeats 8000000 in
theorem b3I (C:Laid P) (s:v9) (hh:s.heap.length≤1000) (ho:97<s.ops.length) (h1:s.ops.length≤1000):j4 P G B1 [aS s,.str [118,109,115,116,97,116,117,115]] [] (.x6 [aS s,pI 21]):=by
 refine i5 C (H5 C) rfl ?_
 have kP:=a6Q C s (vmL s) (by show 100<s.ops.length+3;omega) h1 (by show 3≤1000;decide)
 repeat' ((conv=>whnf);first | (with_reducible refine sC (by kernel_rfl) ?_) | ((first | (with_reducible first | refine sB ?_ | refine o5 ?_ | refine o6 ?_) | refine sP (by rfl) ?_);first | refine oT ?_ | refine oF ?_ | (refine Or.inr (Or.inr ⟨fun hsp=>?_,fun hsp=>?_⟩) <;>(try simp only [nm,List.length_map] at hsp) <;>try subst hsp)) | refine ⟨_,_,b0k C _,?_⟩ | refine ⟨_,_,a7z C s.heap (by omega),?_⟩ | refine ⟨_,_,kP,?_⟩ | fail)
 all_goals (conv=>whnf)
 all_goals (first | exact PV.le.refl _ | (exfalso;omega) | ((repeat' (first | (with_reducible exact PV.le.refl _) | exact PV.le.emp _ | exact I3.nil | (with_reducible refine w5 ?_) | (with_reducible refine p8 ?_) | (refine I3.cons ?_ ?_) | (with_reducible refine j9 ?_) | (with_reducible refine x8 ?_) | (with_reducible refine A0 ?_) | (with_reducible refine y3 ?_) | (with_reducible refine q9 ?_) | (refine A3 ?_))) <;>(first | rfl | exact PV.le.refl _ | (simp;done) | (refine le_of_eq ?_;simp;done))))
set_option maxHeartbeats 8000000 in
theorem b1i (C:Laid P) (s:v9) (l:List Sn) (ts:List v9) (hq:s.f3=l.map w7) (h62:s.f62=ts.map grO) (h3:l.length<10) (ht:ts.length<20) (ho:100≤s.ops.length) (h1:s.ops.length≤1000):j4 P G B1 [aS s,.str [115,97,118,101]] [] (.x6 [aS s,pI 21]):=by
 refine i5 C (H5 C) rfl ?_
 have hl3:s.f3.length=l.length:=by rw [hq,List.length_map]
 have hl62:s.f62.length=ts.length:=by rw [h62,List.length_map]
 have kI:=a6Q C s [svO (IntKind.i64.wrap (s.f4+1))] (by simp;omega) h1 (by simp)
 repeat' ((conv=>whnf);first | (with_reducible refine sC (by kernel_rfl) ?_) | ((first | (with_reducible first | refine sB ?_ | refine o5 ?_ | refine o6 ?_) | refine sP (by rfl) ?_);first | refine Or.inl ⟨by first | assumption | (simp only [nm,List.length_map,hl3,hl62];first | done | assumption | omega),?_⟩ | refine Or.inr (Or.inl ⟨by first | assumption | (simp only [nm,List.length_map,hl3,hl62];first | done | assumption | omega),?_⟩) | (refine Or.inr (Or.inr ⟨fun hsp=>?_,fun hsp=>?_⟩) <;>(try simp only [nm,List.length_map,hl3,hl62] at hsp) <;>try subst hsp)) | refine ⟨_,_,kI,?_⟩ | fail)
 all_goals (conv=>whnf)
 all_goals (first | exact PV.le.refl _ | (exfalso;omega) | ((repeat' (first | (with_reducible exact PV.le.refl _) | exact PV.le.emp _ | exact I3.nil | (with_reducible refine w5 ?_) | (with_reducible refine p8 ?_) | (refine I3.cons ?_ ?_) | (with_reducible refine j9 ?_) | (with_reducible refine x8 ?_) | (with_reducible refine A0 ?_) | (with_reducible refine y3 ?_) | (with_reducible refine q9 ?_) | (refine A3 ?_))) <;>(first | rfl | exact PV.le.refl _ | (simp;done) | (refine le_of_eq ?_;simp;done))))
end Go.Ab.Td
namespace Go.Ab.Td
set_option maxRecDepth 100000
set_option maxRecDepth 100000
open Go Go.Ab
variable {P:Program}
set_option linter.unusedSimpArgs false
attribute [local irreducible] e9
set_option maxHeartbeats 8000000 in
theorem b8a (C:Laid P) (s:v9) (h:10≤s.f3.length∨20≤s.f62.length):j4 P G w8 [aS s] [] (.x6 [aS s,pI 26]):=by
 refine i5 C (P9 C) rfl ?_
 repeat' ((conv=>whnf);first | (with_reducible refine sC (by kernel_rfl) ?_) | ((first | (with_reducible first | refine sB ?_ | refine o5 ?_ | refine o6 ?_) | refine sP (by rfl) ?_);first | refine oT ?_ | refine oF ?_ | (refine Or.inr (Or.inr ⟨fun hsp=>?_,fun hsp=>?_⟩) <;>(try simp only [nm,List.length_map] at hsp) <;>try subst hsp)) | fail)
 all_goals (conv=>whnf)
 all_goals (first | exact PV.le.refl _ | (exfalso;omega))
set_option maxHeartbeats 8000000 in
theorem b6L (C:Laid P) (s:v9) (h3:s.f3.length<10) (ht:s.f62.length<20) (ho:100≤s.ops.length) (h1:s.ops.length≤1000):j4 P G w8 [aS s] [] (.x6 [aS s,pI 21]):=by
 refine i5 C (P9 C) rfl ?_
 have kI:=b0i C s [svO (IntKind.i64.wrap (s.f4+1))] (by simp;omega) h1 (by simp)
 repeat' ((conv=>whnf);first | (with_reducible refine sC (by kernel_rfl) ?_) | ((first | (with_reducible first | refine sB ?_ | refine o5 ?_ | refine o6 ?_) | refine sP (by rfl) ?_);first | refine oT ?_ | refine oF ?_ | (refine Or.inr (Or.inr ⟨fun hsp=>?_,fun hsp=>?_⟩) <;>(try simp only [nm,List.length_map] at hsp) <;>try subst hsp)) | refine ⟨_,_,kI,?_⟩ | fail)
 all_goals (conv=>whnf)
 all_goals (first | exact PV.le.refl _ | (exfalso;omega) | ((repeat' (first | (with_reducible exact PV.le.refl _) | exact PV.le.emp _ | exact I3.nil | (with_reducible refine w5 ?_) | (with_reducible refine p8 ?_) | (refine I3.cons ?_ ?_) | (with_reducible refine j9 ?_) | (with_reducible refine x8 ?_) | (with_reducible refine A0 ?_) | (with_reducible refine y3 ?_) | (with_reducible refine q9 ?_) | (refine A3 ?_))) <;>(first | rfl | exact PV.le.refl _ | (simp;done) | (refine le_of_eq ?_;simp;done))))
set_option maxHeartbeats 8000000 in
theorem b1j (C:Laid P) (s:v9) (h:s.ops=[]):j4 P G k7 [aS s] [] (.x6 [aS s,pI 20]):=by
 refine i5 C (v5 C) rfl ?_
 have kT:=a9e C s 1 (by decide) (by rw [h];decide)
 repeat' ((conv=>whnf);first | (with_reducible refine sC (by kernel_rfl) ?_) | ((first | (with_reducible first | refine sB ?_ | refine o5 ?_ | refine o6 ?_) | refine sP (by rfl) ?_);first | refine oT ?_ | refine oF ?_ | (refine Or.inr (Or.inr ⟨fun hsp=>?_,fun hsp=>?_⟩) <;>(try simp only [nm,List.length_map] at hsp) <;>try subst hsp)) | refine ⟨_,_,kT,?_⟩ | fail)
 all_goals (conv=>whnf)
 all_goals (first | exact PV.le.refl _ | (exfalso;omega) | ((repeat' (first | (with_reducible exact PV.le.refl _) | exact PV.le.emp _ | exact I3.nil | (with_reducible refine w5 ?_) | (with_reducible refine p8 ?_) | (refine I3.cons ?_ ?_) | (with_reducible refine j9 ?_) | (with_reducible refine x8 ?_) | (with_reducible refine A0 ?_) | (with_reducible refine y3 ?_) | (with_reducible refine q9 ?_) | (refine A3 ?_))) <;>(first | rfl | exact PV.le.refl _ | (simp;done) | (refine le_of_eq ?_;simp;done))))
set_option maxHeartbeats 8000000 in
theorem b2k (C:Laid P) (s:v9) (lo:List Ob) (o:Ob) (hop:s.ops=lo++[o]) (ho:lo.length≤1000) (hk:o.kind≠12):j4 P G k7 [aS s] [] (.x6 [aS s,pI 22]):=by
 refine i5 C (v5 C) rfl ?_
 have kT:=a1g C s 1 (by decide) (by rw [hop];simp;omega) (by rw [hop];simp;omega)
 rw [show s.ops.drop (s.ops.length - (1:Int).toNat)=[o] by rw [hop];simp] at kT
 repeat' ((conv=>whnf);first | (with_reducible refine sC (by kernel_rfl) ?_) | ((first | (with_reducible first | refine sB ?_ | refine o5 ?_ | refine o6 ?_) | refine sP (by rfl) ?_);first | refine oT ?_ | refine oF ?_ | (refine Or.inr (Or.inr ⟨fun hsp=>?_,fun hsp=>?_⟩) <;>(try simp only [nm,List.length_map] at hsp) <;>try subst hsp)) | refine ⟨_,_,kT,?_⟩ | fail)
 all_goals (conv=>whnf)
 all_goals (first | exact PV.le.refl _ | (exfalso;omega) | ((repeat' (first | (with_reducible exact PV.le.refl _) | exact PV.le.emp _ | exact I3.nil | (with_reducible refine w5 ?_) | (with_reducible refine p8 ?_) | (refine I3.cons ?_ ?_) | (with_reducible refine j9 ?_) | (with_reducible refine x8 ?_) | (with_reducible refine A0 ?_) | (with_reducible refine y3 ?_) | (with_reducible refine q9 ?_) | (refine A3 ?_))) <;>(first | rfl | exact PV.le.refl _ | (simp;done) | (refine le_of_eq ?_;simp;done))))
end Go.Ab.Td
namespace Go.Ab.Td
set_option maxRecDepth 100000
set_option maxRecDepth 100000
open Go Go.Ab
variable {P:Program}
set_option linter.unusedSimpArgs false
attribute [local irreducible] e9
set_option maxHeartbeats 8000000 in
theorem b0o (C:Laid P) (s:v9) (lo:List Ob) (o:Ob) (hop:s.ops=lo++[o]) (ho:lo.length≤1000) (l:List Sn) (hq:s.f3=l.map w7) (hl1:l.length≤1000) (n:Int) (hn:o=svO n) (hd:s.e6.length≤1000) (i:Nat) (xn:Int) (xh:List Cl) (j:Nat) (hp:plF n 0 l=(i:Int)) (hx:l[i]?=some ⟨xn,xh,(j:Int)⟩) (hnw:∃ o ∈ lo,n7 xh.length o):j4 P G k7 [aS s] [] (.x6 [aS s,pI 34]):=by
 refine i5 C (v5 C) rfl ?_
 have kT:=a1g C s 1 (by decide) (by rw [hop];simp;omega) (by rw [hop];simp;omega)
 rw [show s.ops.drop (s.ops.length - (1:Int).toNat)=[o] by rw [hop];simp] at kT
 subst hn
 have kF:=N0 C s l n hq (by omega)
 rw [hp] at kF
 have kD:=a4V C s 1 (by decide) (by rw [hop];simp;omega) (by rw [hop];simp;omega)
 rw [show s.ops.take (s.ops.length - (1:Int).toNat)=lo by rw [hop];simp] at kD
 have k1:=G8 C lo ⟨xn,xh,(j:Int)⟩ (by omega)
 have k2:=G8 C s.e6 ⟨xn,xh,(j:Int)⟩ (by omega)
 have hil:=(List.getElem?_eq_some_iff.1 hx).1
 have hl3:s.f3.length=l.length:=by rw [hq,List.length_map]
 have hrow:s.f3[(i:Int).toNat]?=some (w7 ⟨xn,xh,(j:Int)⟩):=by rw [hq];exact y9 (f:=w7) hx
 rw [show tt (∃ o ∈ lo,n7 xh.length o)=true from Q8.mpr hnw] at k1
 repeat' ((conv=>whnf);first | (with_reducible refine sC (by kernel_rfl) ?_) | ((first | (with_reducible first | refine sB ?_ | refine o5 ?_ | refine o6 ?_) | refine sP (by rfl) ?_);first | refine oT ?_ | refine oF ?_ | (refine Or.inr (Or.inr ⟨fun hsp=>?_,fun hsp=>?_⟩) <;>(try simp only [nm,List.length_map] at hsp) <;>try subst hsp)) | refine ⟨_,_,kT,?_⟩ | refine ⟨_,_,kF,?_⟩ | refine ⟨_,_,kD,?_⟩ | refine ⟨_,_,k1,?_⟩ | refine ⟨_,_,k2,?_⟩ | refine sS (e7 (by rfl) (by rfl) (by omega) hrow) ?_ | fail)
 all_goals (conv=>whnf)
 all_goals (first | exact PV.le.refl _ | (exfalso;omega) | ((repeat' (first | (with_reducible exact PV.le.refl _) | exact PV.le.emp _ | exact I3.nil | (with_reducible refine w5 ?_) | (with_reducible refine p8 ?_) | (refine I3.cons ?_ ?_) | (with_reducible refine j9 ?_) | (with_reducible refine x8 ?_) | (with_reducible refine A0 ?_) | (with_reducible refine y3 ?_) | (with_reducible refine q9 ?_) | (refine A3 ?_))) <;>(first | rfl | exact PV.le.refl _ | (simp;done) | (refine le_of_eq ?_;simp;done))))
set_option maxHeartbeats 8000000 in
theorem b0p (C:Laid P) (s:v9) (lo:List Ob) (o:Ob) (hop:s.ops=lo++[o]) (ho:lo.length≤1000) (l:List Sn) (hq:s.f3=l.map w7) (hl1:l.length≤1000) (n:Int) (hn:o=svO n) (hd:s.e6.length≤1000) (i:Nat) (xn:Int) (xh:List Cl) (j:Nat) (hp:plF n 0 l=(i:Int)) (hx:l[i]?=some ⟨xn,xh,(j:Int)⟩) (hnw:¬ ∃ o ∈ lo,n7 xh.length o) (hnd:∃ o ∈ s.e6,n7 xh.length o):j4 P G k7 [aS s] [] (.x6 [aS s,pI 34]):=by
 refine i5 C (v5 C) rfl ?_
 have kT:=a1g C s 1 (by decide) (by rw [hop];simp;omega) (by rw [hop];simp;omega)
 rw [show s.ops.drop (s.ops.length - (1:Int).toNat)=[o] by rw [hop];simp] at kT
 subst hn
 have kF:=N0 C s l n hq (by omega)
 rw [hp] at kF
 have kD:=a4V C s 1 (by decide) (by rw [hop];simp;omega) (by rw [hop];simp;omega)
 rw [show s.ops.take (s.ops.length - (1:Int).toNat)=lo by rw [hop];simp] at kD
 have k1:=G8 C lo ⟨xn,xh,(j:Int)⟩ (by omega)
 have k2:=G8 C s.e6 ⟨xn,xh,(j:Int)⟩ (by omega)
 have hil:=(List.getElem?_eq_some_iff.1 hx).1
 have hl3:s.f3.length=l.length:=by rw [hq,List.length_map]
 have hrow:s.f3[(i:Int).toNat]?=some (w7 ⟨xn,xh,(j:Int)⟩):=by rw [hq];exact y9 (f:=w7) hx
 rw [show tt (∃ o ∈ lo,n7 xh.length o)=false from I2.mpr hnw] at k1
 rw [show tt (∃ o ∈ s.e6,n7 xh.length o)=true from Q8.mpr hnd] at k2
 repeat' ((conv=>whnf);first | (with_reducible refine sC (by kernel_rfl) ?_) | ((first | (with_reducible first | refine sB ?_ | refine o5 ?_ | refine o6 ?_) | refine sP (by rfl) ?_);first | refine oT ?_ | refine oF ?_ | (refine Or.inr (Or.inr ⟨fun hsp=>?_,fun hsp=>?_⟩) <;>(try simp only [nm,List.length_map] at hsp) <;>try subst hsp)) | refine ⟨_,_,kT,?_⟩ | refine ⟨_,_,kF,?_⟩ | refine ⟨_,_,kD,?_⟩ | refine ⟨_,_,k1,?_⟩ | refine ⟨_,_,k2,?_⟩ | refine sS (e7 (by rfl) (by rfl) (by omega) hrow) ?_ | fail)
 all_goals (conv=>whnf)
 all_goals (first | exact PV.le.refl _ | (exfalso;omega) | ((repeat' (first | (with_reducible exact PV.le.refl _) | exact PV.le.emp _ | exact I3.nil | (with_reducible refine w5 ?_) | (with_reducible refine p8 ?_) | (refine I3.cons ?_ ?_) | (with_reducible refine j9 ?_) | (with_reducible refine x8 ?_) | (with_reducible refine A0 ?_) | (with_reducible refine y3 ?_) | (with_reducible refine q9 ?_) | (refine A3 ?_))) <;>(first | rfl | exact PV.le.refl _ | (simp;done) | (refine le_of_eq ?_;simp;done))))
end Go.Ab.Td

/- A part of the proof: the texts TdUg, TdUh, TdUi. Under: nothing. -/
import Derived.Test.YtngmifmcohmfmaaDoorG33
set_option linter.unusedVariables false
namespace Go.Ab.Td
set_option maxRecDepth 100000
set_option maxRecDepth 100000
open Go Go.Ab
variable {P:Program}
set_option linter.unusedSimpArgs false
attribute [local irreducible] f0
set_option maxHeartbeats 8000000 in
theorem c0Q (C:Laid P) (s:x6) (hh:s.heap.length≤1000) (ho:s.ops.length≤97):j5 P G B2 [aS s,.str [118,109,115,116,97,116,117,115]] [] (.x7 [aS {s with ops:=s.ops++vmL s},pI 0]):=by
 refine i5 C (H0 C) rfl ?_
 have kP:=G2 C s 0 (vmL s) (by decide) (by omega) (by show (s.ops.length:Int) - 0+((3:Nat):Int)≤100;omega) (by omega) (by show 3≤1000000;decide)
 rw [show s.ops.take (s.ops.length - (0:Int).toNat)=s.ops by simp] at kP
 repeat' ((conv=>whnf);first | (with_reducible refine sC (by kernel_rfl) ?_) | ((first | (with_reducible first | refine sB ?_ | refine p8 ?_ | refine p9 ?_) | refine sP (by rfl) ?_);first | refine oT ?_ | refine oF ?_ | (refine Or.inr (Or.inr ⟨fun hsp=>?_,fun hsp=>?_⟩) <;>(try simp only [nm,List.length_map] at hsp) <;>try subst hsp)) | refine ⟨_,_,a9T C _,?_⟩ | refine ⟨_,_,a7j C s.heap (by omega),?_⟩ | refine ⟨_,_,kP,?_⟩ | fail)
 all_goals (conv=>whnf)
 all_goals (first | exact PV.le.refl _ | (exfalso;omega) | ((repeat' (first | (with_reducible exact PV.le.refl _) | exact PV.le.emp _ | exact H9.nil | (with_reducible refine w6 ?_) | (with_reducible refine q8 ?_) | (refine H9.cons ?_ ?_) | (with_reducible refine l0 ?_) | (with_reducible refine x9 ?_) | (with_reducible refine A3 ?_) | (with_reducible refine y5 ?_) | (with_reducible refine s8 ?_) | (refine A4 ?_))) <;>(first | rfl | exact PV.le.refl _ | (simp;done) | (refine le_of_eq ?_;simp;done))))
set_option maxHeartbeats 8000000 in
theorem b3u (C:Laid P) (s:x6) (hh:s.heap.length≤1000) (ho:97<s.ops.length) (h1:s.ops.length≤1000):j5 P G B2 [aS s,.str [118,109,115,116,97,116,117,115]] [] (.x7 [aS s,pI 21]):=by
 refine i5 C (H0 C) rfl ?_
 have kP:=a6y C s (vmL s) (by show 100<s.ops.length+3;omega) h1 (by show 3≤1000;decide)
 repeat' ((conv=>whnf);first | (with_reducible refine sC (by kernel_rfl) ?_) | ((first | (with_reducible first | refine sB ?_ | refine p8 ?_ | refine p9 ?_) | refine sP (by rfl) ?_);first | refine oT ?_ | refine oF ?_ | (refine Or.inr (Or.inr ⟨fun hsp=>?_,fun hsp=>?_⟩) <;>(try simp only [nm,List.length_map] at hsp) <;>try subst hsp)) | refine ⟨_,_,a9T C _,?_⟩ | refine ⟨_,_,a7j C s.heap (by omega),?_⟩ | refine ⟨_,_,kP,?_⟩ | fail)
 all_goals (conv=>whnf)
 all_goals (first | exact PV.le.refl _ | (exfalso;omega) | ((repeat' (first | (with_reducible exact PV.le.refl _) | exact PV.le.emp _ | exact H9.nil | (with_reducible refine w6 ?_) | (with_reducible refine q8 ?_) | (refine H9.cons ?_ ?_) | (with_reducible refine l0 ?_) | (with_reducible refine x9 ?_) | (with_reducible refine A3 ?_) | (with_reducible refine y5 ?_) | (with_reducible refine s8 ?_) | (refine A4 ?_))) <;>(first | rfl | exact PV.le.refl _ | (simp;done) | (refine le_of_eq ?_;simp;done))))
set_option maxHeartbeats 8000000 in
theorem b0R (C:Laid P) (s:x6) (l:List Sn) (ts:List x6) (hq:s.f3=l.map A1) (h62:s.f62=ts.map grO) (h3:l.length<10) (ht:ts.length<20) (ho:100≤s.ops.length) (h1:s.ops.length≤1000):j5 P G B2 [aS s,.str [115,97,118,101]] [] (.x7 [aS s,pI 21]):=by
 refine i5 C (H0 C) rfl ?_
 have hl3:s.f3.length=l.length:=by rw [hq,List.length_map]
 have hl62:s.f62.length=ts.length:=by rw [h62,List.length_map]
 have kI:=a6y C s [svO (IntKind.i64.wrap (s.f4+1))] (by simp;omega) h1 (by simp)
 repeat' ((conv=>whnf);first | (with_reducible refine sC (by kernel_rfl) ?_) | ((first | (with_reducible first | refine sB ?_ | refine p8 ?_ | refine p9 ?_) | refine sP (by rfl) ?_);first | refine Or.inl ⟨by first | assumption | (simp only [nm,List.length_map,hl3,hl62];first | done | assumption | omega),?_⟩ | refine Or.inr (Or.inl ⟨by first | assumption | (simp only [nm,List.length_map,hl3,hl62];first | done | assumption | omega),?_⟩) | (refine Or.inr (Or.inr ⟨fun hsp=>?_,fun hsp=>?_⟩) <;>(try simp only [nm,List.length_map,hl3,hl62] at hsp) <;>try subst hsp)) | refine ⟨_,_,kI,?_⟩ | fail)
 all_goals (conv=>whnf)
 all_goals (first | exact PV.le.refl _ | (exfalso;omega) | ((repeat' (first | (with_reducible exact PV.le.refl _) | exact PV.le.emp _ | exact H9.nil | (with_reducible refine w6 ?_) | (with_reducible refine q8 ?_) | (refine H9.cons ?_ ?_) | (with_reducible refine l0 ?_) | (with_reducible refine x9 ?_) | (with_reducible refine A3 ?_) | (with_reducible refine y5 ?_) | (with_reducible refine s8 ?_) | (refine A4 ?_))) <;>(first | rfl | exact PV.le.refl _ | (simp;done) | (refine le_of_eq ?_;simp;done))))
end Go.Ab.Td
namespace Go.Ab.Td
set_option maxRecDepth 100000
set_option maxRecDepth 100000
open Go Go.Ab
variable {P:Program}
set_option linter.unusedSimpArgs false
attribute [local irreducible] f0
set_option maxHeartbeats 8000000 in
theorem b7J (C:Laid P) (s:x6) (h:10≤s.f3.length∨20≤s.f62.length):j5 P G x4 [aS s] [] (.x7 [aS s,pI 26]):=by
 refine i5 C (P4 C) rfl ?_
 repeat' ((conv=>whnf);first | (with_reducible refine sC (by kernel_rfl) ?_) | ((first | (with_reducible first | refine sB ?_ | refine p8 ?_ | refine p9 ?_) | refine sP (by rfl) ?_);first | refine oT ?_ | refine oF ?_ | (refine Or.inr (Or.inr ⟨fun hsp=>?_,fun hsp=>?_⟩) <;>(try simp only [nm,List.length_map] at hsp) <;>try subst hsp)) | fail)
 all_goals (conv=>whnf)
 all_goals (first | exact PV.le.refl _ | (exfalso;omega))
set_option maxHeartbeats 8000000 in
theorem b6v (C:Laid P) (s:x6) (h3:s.f3.length<10) (ht:s.f62.length<20) (ho:100≤s.ops.length) (h1:s.ops.length≤1000):j5 P G x4 [aS s] [] (.x7 [aS s,pI 21]):=by
 refine i5 C (P4 C) rfl ?_
 have kI:=a9Q C s [svO (IntKind.i64.wrap (s.f4+1))] (by simp;omega) h1 (by simp)
 repeat' ((conv=>whnf);first | (with_reducible refine sC (by kernel_rfl) ?_) | ((first | (with_reducible first | refine sB ?_ | refine p8 ?_ | refine p9 ?_) | refine sP (by rfl) ?_);first | refine oT ?_ | refine oF ?_ | (refine Or.inr (Or.inr ⟨fun hsp=>?_,fun hsp=>?_⟩) <;>(try simp only [nm,List.length_map] at hsp) <;>try subst hsp)) | refine ⟨_,_,kI,?_⟩ | fail)
 all_goals (conv=>whnf)
 all_goals (first | exact PV.le.refl _ | (exfalso;omega) | ((repeat' (first | (with_reducible exact PV.le.refl _) | exact PV.le.emp _ | exact H9.nil | (with_reducible refine w6 ?_) | (with_reducible refine q8 ?_) | (refine H9.cons ?_ ?_) | (with_reducible refine l0 ?_) | (with_reducible refine x9 ?_) | (with_reducible refine A3 ?_) | (with_reducible refine y5 ?_) | (with_reducible refine s8 ?_) | (refine A4 ?_))) <;>(first | rfl | exact PV.le.refl _ | (simp;done) | (refine le_of_eq ?_;simp;done))))
set_option maxHeartbeats 8000000 in
theorem b0S (C:Laid P) (s:x6) (h:s.ops=[]):j5 P G l5 [aS s] [] (.x7 [aS s,pI 20]):=by
 refine i5 C (v7 C) rfl ?_
 have kT:=a8O C s 1 (by decide) (by rw [h];decide)
 repeat' ((conv=>whnf);first | (with_reducible refine sC (by kernel_rfl) ?_) | ((first | (with_reducible first | refine sB ?_ | refine p8 ?_ | refine p9 ?_) | refine sP (by rfl) ?_);first | refine oT ?_ | refine oF ?_ | (refine Or.inr (Or.inr ⟨fun hsp=>?_,fun hsp=>?_⟩) <;>(try simp only [nm,List.length_map] at hsp) <;>try subst hsp)) | refine ⟨_,_,kT,?_⟩ | fail)
 all_goals (conv=>whnf)
 all_goals (first | exact PV.le.refl _ | (exfalso;omega) | ((repeat' (first | (with_reducible exact PV.le.refl _) | exact PV.le.emp _ | exact H9.nil | (with_reducible refine w6 ?_) | (with_reducible refine q8 ?_) | (refine H9.cons ?_ ?_) | (with_reducible refine l0 ?_) | (with_reducible refine x9 ?_) | (with_reducible refine A3 ?_) | (with_reducible refine y5 ?_) | (with_reducible refine s8 ?_) | (refine A4 ?_))) <;>(first | rfl | exact PV.le.refl _ | (simp;done) | (refine le_of_eq ?_;simp;done))))
set_option maxHeartbeats 8000000 in
theorem b1V (C:Laid P) (s:x6) (lo:List Ob) (o:Ob) (hop:s.ops=lo++[o]) (ho:lo.length≤1000) (hk:o.kind≠12):j5 P G l5 [aS s] [] (.x7 [aS s,pI 22]):=by
 refine i5 C (v7 C) rfl ?_
 have kT:=a1c C s 1 (by decide) (by rw [hop];simp;omega) (by rw [hop];simp;omega)
 rw [show s.ops.drop (s.ops.length - (1:Int).toNat)=[o] by rw [hop];simp] at kT
 repeat' ((conv=>whnf);first | (with_reducible refine sC (by kernel_rfl) ?_) | ((first | (with_reducible first | refine sB ?_ | refine p8 ?_ | refine p9 ?_) | refine sP (by rfl) ?_);first | refine oT ?_ | refine oF ?_ | (refine Or.inr (Or.inr ⟨fun hsp=>?_,fun hsp=>?_⟩) <;>(try simp only [nm,List.length_map] at hsp) <;>try subst hsp)) | refine ⟨_,_,kT,?_⟩ | fail)
 all_goals (conv=>whnf)
 all_goals (first | exact PV.le.refl _ | (exfalso;omega) | ((repeat' (first | (with_reducible exact PV.le.refl _) | exact PV.le.emp _ | exact H9.nil | (with_reducible refine w6 ?_) | (with_reducible refine q8 ?_) | (refine H9.cons ?_ ?_) | (with_reducible refine l0 ?_) | (with_reducible refine x9 ?_) | (with_reducible refine A3 ?_) | (with_reducible refine y5 ?_) | (with_reducible refine s8 ?_) | (refine A4 ?_))) <;>(first | rfl | exact PV.le.refl _ | (simp;done) | (refine le_of_eq ?_;simp;done))))
end Go.Ab.Td
namespace Go.Ab.Td
set_option maxRecDepth 100000
set_option maxRecDepth 100000
open Go Go.Ab
variable {P:Program}
set_option linter.unusedSimpArgs false
attribute [local irreducible] f0
set_option maxHeartbeats 8000000 in
theorem a9X (C:Laid P) (s:x6) (lo:List Ob) (o:Ob) (hop:s.ops=lo++[o]) (ho:lo.length≤1000) (l:List Sn) (hq:s.f3=l.map A1) (hl1:l.length≤1000) (n:Int) (hn:o=svO n) (hd:s.e8.length≤1000) (i:Nat) (xn:Int) (xh:List Cl) (j:Nat) (hp:plF n 0 l=(i:Int)) (hx:l[i]?=some ⟨xn,xh,(j:Int)⟩) (hnw:∃ o ∈ lo,o3 xh.length o):j5 P G l5 [aS s] [] (.x7 [aS s,pI 34]):=by
 refine i5 C (v7 C) rfl ?_
 have kT:=a1c C s 1 (by decide) (by rw [hop];simp;omega) (by rw [hop];simp;omega)
 rw [show s.ops.drop (s.ops.length - (1:Int).toNat)=[o] by rw [hop];simp] at kT
 subst hn
 have kF:=M5 C s l n hq (by omega)
 rw [hp] at kF
 have kD:=a4L C s 1 (by decide) (by rw [hop];simp;omega) (by rw [hop];simp;omega)
 rw [show s.ops.take (s.ops.length - (1:Int).toNat)=lo by rw [hop];simp] at kD
 have k1:=G3 C lo ⟨xn,xh,(j:Int)⟩ (by omega)
 have k2:=G3 C s.e8 ⟨xn,xh,(j:Int)⟩ (by omega)
 have hil:=(List.getElem?_eq_some_iff.1 hx).1
 have hl3:s.f3.length=l.length:=by rw [hq,List.length_map]
 have hrow:s.f3[(i:Int).toNat]?=some (A1 ⟨xn,xh,(j:Int)⟩):=by rw [hq];exact y3 (f:=A1) hx
 rw [show tt (∃ o ∈ lo,o3 xh.length o)=true from Q5.mpr hnw] at k1
 repeat' ((conv=>whnf);first | (with_reducible refine sC (by kernel_rfl) ?_) | ((first | (with_reducible first | refine sB ?_ | refine p8 ?_ | refine p9 ?_) | refine sP (by rfl) ?_);first | refine oT ?_ | refine oF ?_ | (refine Or.inr (Or.inr ⟨fun hsp=>?_,fun hsp=>?_⟩) <;>(try simp only [nm,List.length_map] at hsp) <;>try subst hsp)) | refine ⟨_,_,kT,?_⟩ | refine ⟨_,_,kF,?_⟩ | refine ⟨_,_,kD,?_⟩ | refine ⟨_,_,k1,?_⟩ | refine ⟨_,_,k2,?_⟩ | refine sS (e7 (by rfl) (by rfl) (by omega) hrow) ?_ | fail)
 all_goals (conv=>whnf)
 all_goals (first | exact PV.le.refl _ | (exfalso;omega) | ((repeat' (first | (with_reducible exact PV.le.refl _) | exact PV.le.emp _ | exact H9.nil | (with_reducible refine w6 ?_) | (with_reducible refine q8 ?_) | (refine H9.cons ?_ ?_) | (with_reducible refine l0 ?_) | (with_reducible refine x9 ?_) | (with_reducible refine A3 ?_) | (with_reducible refine y5 ?_) | (with_reducible refine s8 ?_) | (refine A4 ?_))) <;>(first | rfl | exact PV.le.refl _ | (simp;done) | (refine le_of_eq ?_;simp;done))))
set_option maxHeartbeats 8000000 in
theorem a9Y (C:Laid P) (s:x6) (lo:List Ob) (o:Ob) (hop:s.ops=lo++[o]) (ho:lo.length≤1000) (l:List Sn) (hq:s.f3=l.map A1) (hl1:l.length≤1000) (n:Int) (hn:o=svO n) (hd:s.e8.length≤1000) (i:Nat) (xn:Int) (xh:List Cl) (j:Nat) (hp:plF n 0 l=(i:Int)) (hx:l[i]?=some ⟨xn,xh,(j:Int)⟩) (hnw:¬ ∃ o ∈ lo,o3 xh.length o) (hnd:∃ o ∈ s.e8,o3 xh.length o):j5 P G l5 [aS s] [] (.x7 [aS s,pI 34]):=by
 refine i5 C (v7 C) rfl ?_
 have kT:=a1c C s 1 (by decide) (by rw [hop];simp;omega) (by rw [hop];simp;omega)
 rw [show s.ops.drop (s.ops.length - (1:Int).toNat)=[o] by rw [hop];simp] at kT
 subst hn
 have kF:=M5 C s l n hq (by omega)
 rw [hp] at kF
 have kD:=a4L C s 1 (by decide) (by rw [hop];simp;omega) (by rw [hop];simp;omega)
 rw [show s.ops.take (s.ops.length - (1:Int).toNat)=lo by rw [hop];simp] at kD
 have k1:=G3 C lo ⟨xn,xh,(j:Int)⟩ (by omega)
 have k2:=G3 C s.e8 ⟨xn,xh,(j:Int)⟩ (by omega)
 have hil:=(List.getElem?_eq_some_iff.1 hx).1
 have hl3:s.f3.length=l.length:=by rw [hq,List.length_map]
 have hrow:s.f3[(i:Int).toNat]?=some (A1 ⟨xn,xh,(j:Int)⟩):=by rw [hq];exact y3 (f:=A1) hx
 rw [show tt (∃ o ∈ lo,o3 xh.length o)=false from H8.mpr hnw] at k1
 rw [show tt (∃ o ∈ s.e8,o3 xh.length o)=true from Q5.mpr hnd] at k2
 repeat' ((conv=>whnf);first | (with_reducible refine sC (by kernel_rfl) ?_) | ((first | (with_reducible first | refine sB ?_ | refine p8 ?_ | refine p9 ?_) | refine sP (by rfl) ?_);first | refine oT ?_ | refine oF ?_ | (refine Or.inr (Or.inr ⟨fun hsp=>?_,fun hsp=>?_⟩) <;>(try simp only [nm,List.length_map] at hsp) <;>try subst hsp)) | refine ⟨_,_,kT,?_⟩ | refine ⟨_,_,kF,?_⟩ | refine ⟨_,_,kD,?_⟩ | refine ⟨_,_,k1,?_⟩ | refine ⟨_,_,k2,?_⟩ | refine sS (e7 (by rfl) (by rfl) (by omega) hrow) ?_ | fail)
 all_goals (conv=>whnf)
 all_goals (first | exact PV.le.refl _ | (exfalso;omega) | ((repeat' (first | (with_reducible exact PV.le.refl _) | exact PV.le.emp _ | exact H9.nil | (with_reducible refine w6 ?_) | (with_reducible refine q8 ?_) | (refine H9.cons ?_ ?_) | (with_reducible refine l0 ?_) | (with_reducible refine x9 ?_) | (with_reducible refine A3 ?_) | (with_reducible refine y5 ?_) | (with_reducible refine s8 ?_) | (refine A4 ?_))) <;>(first | rfl | exact PV.le.refl _ | (simp;done) | (refine le_of_eq ?_;simp;done))))
end Go.Ab.Td

/- A part of the proof: the texts TdUg, TdUh, TdUi, TdUj, TdUl, TdW18, TdL. Under: nothing. -/
import Derived.Test.YtngmifmcohmfmaaDoorG21
import Derived.Test.YtngmifmcohmfmaaDoorG07
import Derived.Test.YtngmifmcohmfmaaDoorG05
import Derived.Test.YtngmifmcohmfmaaDoorG16
import Derived.Test.YtngmifmcohmfmaaDoorG20
import Derived.KernelRfl
import Derived.Test.YtngmifmcohmfmaaDoorG14
set_option linter.unusedVariables false
namespace Go.Ab.Td
set_option maxRecDepth 100000
set_option maxRecDepth 100000
open Go Go.Ab
variable {P:Program}
set_option linter.unusedSimpArgs false
attribute [local irreducible] d8
set_option maxHeartbeats 8000000 in
theorem c0d (C:Laid P) (s:B4) (hh:s.heap.length≤1000) (ho:s.ops.length≤97):j6 P G q8 [aS s,.str [118,109,115,116,97,116,117,115]] [] (.v9 [aS {s with ops:=s.ops++vmL s},pI 0]):=by
 refine i7 C (D3 C) rfl ?_
 have kP:=F0 C s 0 (vmL s) (by decide) (by omega) (by show (s.ops.length:Int) - 0+((3:Nat):Int)≤100;omega) (by omega) (by show 3≤1000000;decide)
 rw [show s.ops.take (s.ops.length - (0:Int).toNat)=s.ops by simp] at kP
 repeat' ((conv=>whnf);first | (with_reducible refine sC (by kernel_rfl) ?_) | ((first | (with_reducible first | refine sB ?_ | refine x8 ?_ | refine x9 ?_) | refine sP (by rfl) ?_);first | refine oT ?_ | refine oF ?_ | (refine Or.inr (Or.inr ⟨fun hsp=>?_,fun hsp=>?_⟩) <;>(try simp only [nm,List.length_map] at hsp) <;>try subst hsp)) | refine ⟨_,_,a9e C _,?_⟩ | refine ⟨_,_,a6y C s.heap (by omega),?_⟩ | refine ⟨_,_,kP,?_⟩ | fail)
 all_goals (conv=>whnf)
 all_goals (first | exact PV.le.refl _ | (exfalso;omega) | ((repeat' (first | (with_reducible exact PV.le.refl _) | exact PV.le.emp _ | exact K3.nil | (with_reducible refine x6 ?_) | (with_reducible refine s7 ?_) | (refine K3.cons ?_ ?_) | (with_reducible refine l8 ?_) | (with_reducible refine y5 ?_) | (with_reducible refine E2 ?_) | (with_reducible refine C7 ?_) | (with_reducible refine u3 ?_) | (refine E7 ?_))) <;>(first | rfl | exact PV.le.refl _ | (simp;done) | (refine le_of_eq ?_;simp;done))))
set_option maxHeartbeats 8000000 in
theorem b2t (C:Laid P) (s:B4) (hh:s.heap.length≤1000) (ho:97<s.ops.length) (h1:s.ops.length≤1000):j6 P G q8 [aS s,.str [118,109,115,116,97,116,117,115]] [] (.v9 [aS s,pI 21]):=by
 refine i7 C (D3 C) rfl ?_
 have kP:=a5L C s (vmL s) (by show 100<s.ops.length+3;omega) h1 (by show 3≤1000;decide)
 repeat' ((conv=>whnf);first | (with_reducible refine sC (by kernel_rfl) ?_) | ((first | (with_reducible first | refine sB ?_ | refine x8 ?_ | refine x9 ?_) | refine sP (by rfl) ?_);first | refine oT ?_ | refine oF ?_ | (refine Or.inr (Or.inr ⟨fun hsp=>?_,fun hsp=>?_⟩) <;>(try simp only [nm,List.length_map] at hsp) <;>try subst hsp)) | refine ⟨_,_,a9e C _,?_⟩ | refine ⟨_,_,a6y C s.heap (by omega),?_⟩ | refine ⟨_,_,kP,?_⟩ | fail)
 all_goals (conv=>whnf)
 all_goals (first | exact PV.le.refl _ | (exfalso;omega) | ((repeat' (first | (with_reducible exact PV.le.refl _) | exact PV.le.emp _ | exact K3.nil | (with_reducible refine x6 ?_) | (with_reducible refine s7 ?_) | (refine K3.cons ?_ ?_) | (with_reducible refine l8 ?_) | (with_reducible refine y5 ?_) | (with_reducible refine E2 ?_) | (with_reducible refine C7 ?_) | (with_reducible refine u3 ?_) | (refine E7 ?_))) <;>(first | rfl | exact PV.le.refl _ | (simp;done) | (refine le_of_eq ?_;simp;done))))
set_option maxHeartbeats 8000000 in
theorem b6x (C:Laid P) (s:B4):j6 P G q8 [aS s,.str [102,114,101,101]] [] (.v9 [aS s,pI 24]):=by
 refine i7 C (D3 C) rfl ?_
 repeat' ((conv=>whnf);first | (with_reducible refine sC (by kernel_rfl) ?_) | ((first | (with_reducible first | refine sB ?_ | refine x8 ?_ | refine x9 ?_) | refine sP (by rfl) ?_);first | refine oT ?_ | refine oF ?_ | (refine Or.inr (Or.inr ⟨fun hsp=>?_,fun hsp=>?_⟩) <;>(try simp only [nm,List.length_map] at hsp) <;>try subst hsp)) | fail)
 all_goals (conv=>whnf)
 all_goals (first | exact PV.le.refl _ | (exfalso;omega) | ((repeat' (first | (with_reducible exact PV.le.refl _) | exact PV.le.emp _ | exact K3.nil | (with_reducible refine x6 ?_) | (with_reducible refine s7 ?_) | (refine K3.cons ?_ ?_) | (with_reducible refine l8 ?_) | (with_reducible refine y5 ?_) | (with_reducible refine E2 ?_) | (with_reducible refine C7 ?_) | (with_reducible refine u3 ?_) | (refine E7 ?_))) <;>(first | rfl | exact PV.le.refl _ | (simp;done) | (refine le_of_eq ?_;simp;done))))
set_option maxHeartbeats 8000000 in
theorem b0b (C:Laid P) (s:B4) (l:List Sn) (ts:List B4) (hq:s.f3=l.map u1) (h62:s.f62=ts.map grO) (h3:l.length<10) (ht:ts.length<20) (ho:100≤s.ops.length) (h1:s.ops.length≤1000):j6 P G q8 [aS s,.str [115,97,118,101]] [] (.v9 [aS s,pI 21]):=by
 refine i7 C (D3 C) rfl ?_
 have hl3:s.f3.length=l.length:=by rw [hq,List.length_map]
 have hl62:s.f62.length=ts.length:=by rw [h62,List.length_map]
 have kI:=a5L C s [svO (IntKind.i64.wrap (s.f4+1))] (by simp;omega) h1 (by simp)
 repeat' ((conv=>whnf);first | (with_reducible refine sC (by kernel_rfl) ?_) | ((first | (with_reducible first | refine sB ?_ | refine x8 ?_ | refine x9 ?_) | refine sP (by rfl) ?_);first | refine Or.inl ⟨by first | assumption | (simp only [nm,List.length_map,hl3,hl62];first | done | assumption | omega),?_⟩ | refine Or.inr (Or.inl ⟨by first | assumption | (simp only [nm,List.length_map,hl3,hl62];first | done | assumption | omega),?_⟩) | (refine Or.inr (Or.inr ⟨fun hsp=>?_,fun hsp=>?_⟩) <;>(try simp only [nm,List.length_map,hl3,hl62] at hsp) <;>try subst hsp)) | refine ⟨_,_,kI,?_⟩ | fail)
 all_goals (conv=>whnf)
 all_goals (first | exact PV.le.refl _ | (exfalso;omega) | ((repeat' (first | (with_reducible exact PV.le.refl _) | exact PV.le.emp _ | exact K3.nil | (with_reducible refine x6 ?_) | (with_reducible refine s7 ?_) | (refine K3.cons ?_ ?_) | (with_reducible refine l8 ?_) | (with_reducible refine y5 ?_) | (with_reducible refine E2 ?_) | (with_reducible refine C7 ?_) | (with_reducible refine u3 ?_) | (refine E7 ?_))) <;>(first | rfl | exact PV.le.refl _ | (simp;done) | (refine le_of_eq ?_;simp;done))))
end Go.Ab.Td
namespace Go.Ab.Td
set_option maxRecDepth 100000
set_option maxRecDepth 100000
open Go Go.Ab
variable {P:Program}
set_option linter.unusedSimpArgs false
attribute [local irreducible] d8
set_option maxHeartbeats 8000000 in
theorem b6A (C:Laid P) (s:B4) (h:10≤s.f3.length∨20≤s.f62.length):j6 P G u4 [aS s] [] (.v9 [aS s,pI 26]):=by
 refine i7 C (N4 C) rfl ?_
 repeat' ((conv=>whnf);first | (with_reducible refine sC (by kernel_rfl) ?_) | ((first | (with_reducible first | refine sB ?_ | refine x8 ?_ | refine x9 ?_) | refine sP (by rfl) ?_);first | refine oT ?_ | refine oF ?_ | (refine Or.inr (Or.inr ⟨fun hsp=>?_,fun hsp=>?_⟩) <;>(try simp only [nm,List.length_map] at hsp) <;>try subst hsp)) | fail)
 all_goals (conv=>whnf)
 all_goals (first | exact PV.le.refl _ | (exfalso;omega))
set_option maxHeartbeats 8000000 in
theorem b5m (C:Laid P) (s:B4) (h3:s.f3.length<10) (ht:s.f62.length<20) (ho:100≤s.ops.length) (h1:s.ops.length≤1000):j6 P G u4 [aS s] [] (.v9 [aS s,pI 21]):=by
 refine i7 C (N4 C) rfl ?_
 have kI:=a9d C s [svO (IntKind.i64.wrap (s.f4+1))] (by simp;omega) h1 (by simp)
 repeat' ((conv=>whnf);first | (with_reducible refine sC (by kernel_rfl) ?_) | ((first | (with_reducible first | refine sB ?_ | refine x8 ?_ | refine x9 ?_) | refine sP (by rfl) ?_);first | refine oT ?_ | refine oF ?_ | (refine Or.inr (Or.inr ⟨fun hsp=>?_,fun hsp=>?_⟩) <;>(try simp only [nm,List.length_map] at hsp) <;>try subst hsp)) | refine ⟨_,_,kI,?_⟩ | fail)
 all_goals (conv=>whnf)
 all_goals (first | exact PV.le.refl _ | (exfalso;omega) | ((repeat' (first | (with_reducible exact PV.le.refl _) | exact PV.le.emp _ | exact K3.nil | (with_reducible refine x6 ?_) | (with_reducible refine s7 ?_) | (refine K3.cons ?_ ?_) | (with_reducible refine l8 ?_) | (with_reducible refine y5 ?_) | (with_reducible refine E2 ?_) | (with_reducible refine C7 ?_) | (with_reducible refine u3 ?_) | (refine E7 ?_))) <;>(first | rfl | exact PV.le.refl _ | (simp;done) | (refine le_of_eq ?_;simp;done))))
set_option maxHeartbeats 8000000 in
theorem b0c (C:Laid P) (s:B4) (h:s.ops=[]):j6 P G j4 [aS s] [] (.v9 [aS s,pI 20]):=by
 refine i7 C (q0 C) rfl ?_
 have kT:=a8d C s 1 (by decide) (by rw [h];decide)
 repeat' ((conv=>whnf);first | (with_reducible refine sC (by kernel_rfl) ?_) | ((first | (with_reducible first | refine sB ?_ | refine x8 ?_ | refine x9 ?_) | refine sP (by rfl) ?_);first | refine oT ?_ | refine oF ?_ | (refine Or.inr (Or.inr ⟨fun hsp=>?_,fun hsp=>?_⟩) <;>(try simp only [nm,List.length_map] at hsp) <;>try subst hsp)) | refine ⟨_,_,kT,?_⟩ | fail)
 all_goals (conv=>whnf)
 all_goals (first | exact PV.le.refl _ | (exfalso;omega) | ((repeat' (first | (with_reducible exact PV.le.refl _) | exact PV.le.emp _ | exact K3.nil | (with_reducible refine x6 ?_) | (with_reducible refine s7 ?_) | (refine K3.cons ?_ ?_) | (with_reducible refine l8 ?_) | (with_reducible refine y5 ?_) | (with_reducible refine E2 ?_) | (with_reducible refine C7 ?_) | (with_reducible refine u3 ?_) | (refine E7 ?_))) <;>(first | rfl | exact PV.le.refl _ | (simp;done) | (refine le_of_eq ?_;simp;done))))
set_option maxHeartbeats 8000000 in
theorem b0Y (C:Laid P) (s:B4) (lo:List Ob) (o:Ob) (hop:s.ops=lo++[o]) (ho:lo.length≤1000) (hk:o.kind≠12):j6 P G j4 [aS s] [] (.v9 [aS s,pI 22]):=by
 refine i7 C (q0 C) rfl ?_
 have kT:=a0I C s 1 (by decide) (by rw [hop];simp;omega) (by rw [hop];simp;omega)
 rw [show s.ops.drop (s.ops.length - (1:Int).toNat)=[o] by rw [hop];simp] at kT
 repeat' ((conv=>whnf);first | (with_reducible refine sC (by kernel_rfl) ?_) | ((first | (with_reducible first | refine sB ?_ | refine x8 ?_ | refine x9 ?_) | refine sP (by rfl) ?_);first | refine oT ?_ | refine oF ?_ | (refine Or.inr (Or.inr ⟨fun hsp=>?_,fun hsp=>?_⟩) <;>(try simp only [nm,List.length_map] at hsp) <;>try subst hsp)) | refine ⟨_,_,kT,?_⟩ | fail)
 all_goals (conv=>whnf)
 all_goals (first | exact PV.le.refl _ | (exfalso;omega) | ((repeat' (first | (with_reducible exact PV.le.refl _) | exact PV.le.emp _ | exact K3.nil | (with_reducible refine x6 ?_) | (with_reducible refine s7 ?_) | (refine K3.cons ?_ ?_) | (with_reducible refine l8 ?_) | (with_reducible refine y5 ?_) | (with_reducible refine E2 ?_) | (with_reducible refine C7 ?_) | (with_reducible refine u3 ?_) | (refine E7 ?_))) <;>(first | rfl | exact PV.le.refl _ | (simp;done) | (refine le_of_eq ?_;simp;done))))
end Go.Ab.Td
namespace Go.Ab.Td
set_option maxRecDepth 100000
set_option maxRecDepth 100000
open Go Go.Ab
variable {P:Program}
set_option linter.unusedSimpArgs false
attribute [local irreducible] d8
set_option maxHeartbeats 8000000 in
theorem a9i (C:Laid P) (s:B4) (lo:List Ob) (o:Ob) (hop:s.ops=lo++[o]) (ho:lo.length≤1000) (l:List Sn) (hq:s.f3=l.map u1) (hl1:l.length≤1000) (n:Int) (hn:o=svO n) (hd:s.d9.length≤1000) (i:Nat) (xn:Int) (xh:List Cl) (j:Nat) (hp:plF n 0 l=(i:Int)) (hx:l[i]?=some ⟨xn,xh,(j:Int)⟩) (hnw:∃ o ∈ lo,n7 xh.length o):j6 P G j4 [aS s] [] (.v9 [aS s,pI 34]):=by
 refine i7 C (q0 C) rfl ?_
 have kT:=a0I C s 1 (by decide) (by rw [hop];simp;omega) (by rw [hop];simp;omega)
 rw [show s.ops.drop (s.ops.length - (1:Int).toNat)=[o] by rw [hop];simp] at kT
 subst hn
 have kF:=y9 C s l n hq (by omega)
 rw [hp] at kF
 have kD:=a4l C s 1 (by decide) (by rw [hop];simp;omega) (by rw [hop];simp;omega)
 rw [show s.ops.take (s.ops.length - (1:Int).toNat)=lo by rw [hop];simp] at kD
 have k1:=F1 C lo ⟨xn,xh,(j:Int)⟩ (by omega)
 have k2:=F1 C s.d9 ⟨xn,xh,(j:Int)⟩ (by omega)
 have hil:=(List.getElem?_eq_some_iff.1 hx).1
 have hl3:s.f3.length=l.length:=by rw [hq,List.length_map]
 have hrow:s.f3[(i:Int).toNat]?=some (u1 ⟨xn,xh,(j:Int)⟩):=by rw [hq];exact C0 (f:=u1) hx
 rw [show tt (∃ o ∈ lo,n7 xh.length o)=true from a2G.mpr hnw] at k1
 repeat' ((conv=>whnf);first | (with_reducible refine sC (by kernel_rfl) ?_) | ((first | (with_reducible first | refine sB ?_ | refine x8 ?_ | refine x9 ?_) | refine sP (by rfl) ?_);first | refine oT ?_ | refine oF ?_ | (refine Or.inr (Or.inr ⟨fun hsp=>?_,fun hsp=>?_⟩) <;>(try simp only [nm,List.length_map] at hsp) <;>try subst hsp)) | refine ⟨_,_,kT,?_⟩ | refine ⟨_,_,kF,?_⟩ | refine ⟨_,_,kD,?_⟩ | refine ⟨_,_,k1,?_⟩ | refine ⟨_,_,k2,?_⟩ | refine sS (e8 (by rfl) (by rfl) (by omega) hrow) ?_ | fail)
 all_goals (conv=>whnf)
 all_goals (first | exact PV.le.refl _ | (exfalso;omega) | ((repeat' (first | (with_reducible exact PV.le.refl _) | exact PV.le.emp _ | exact K3.nil | (with_reducible refine x6 ?_) | (with_reducible refine s7 ?_) | (refine K3.cons ?_ ?_) | (with_reducible refine l8 ?_) | (with_reducible refine y5 ?_) | (with_reducible refine E2 ?_) | (with_reducible refine C7 ?_) | (with_reducible refine u3 ?_) | (refine E7 ?_))) <;>(first | rfl | exact PV.le.refl _ | (simp;done) | (refine le_of_eq ?_;simp;done))))
set_option maxHeartbeats 8000000 in
theorem a9j (C:Laid P) (s:B4) (lo:List Ob) (o:Ob) (hop:s.ops=lo++[o]) (ho:lo.length≤1000) (l:List Sn) (hq:s.f3=l.map u1) (hl1:l.length≤1000) (n:Int) (hn:o=svO n) (hd:s.d9.length≤1000) (i:Nat) (xn:Int) (xh:List Cl) (j:Nat) (hp:plF n 0 l=(i:Int)) (hx:l[i]?=some ⟨xn,xh,(j:Int)⟩) (hnw:¬ ∃ o ∈ lo,n7 xh.length o) (hnd:∃ o ∈ s.d9,n7 xh.length o):j6 P G j4 [aS s] [] (.v9 [aS s,pI 34]):=by
 refine i7 C (q0 C) rfl ?_
 have kT:=a0I C s 1 (by decide) (by rw [hop];simp;omega) (by rw [hop];simp;omega)
 rw [show s.ops.drop (s.ops.length - (1:Int).toNat)=[o] by rw [hop];simp] at kT
 subst hn
 have kF:=y9 C s l n hq (by omega)
 rw [hp] at kF
 have kD:=a4l C s 1 (by decide) (by rw [hop];simp;omega) (by rw [hop];simp;omega)
 rw [show s.ops.take (s.ops.length - (1:Int).toNat)=lo by rw [hop];simp] at kD
 have k1:=F1 C lo ⟨xn,xh,(j:Int)⟩ (by omega)
 have k2:=F1 C s.d9 ⟨xn,xh,(j:Int)⟩ (by omega)
 have hil:=(List.getElem?_eq_some_iff.1 hx).1
 have hl3:s.f3.length=l.length:=by rw [hq,List.length_map]
 have hrow:s.f3[(i:Int).toNat]?=some (u1 ⟨xn,xh,(j:Int)⟩):=by rw [hq];exact C0 (f:=u1) hx
 rw [show tt (∃ o ∈ lo,n7 xh.length o)=false from X8.mpr hnw] at k1
 rw [show tt (∃ o ∈ s.d9,n7 xh.length o)=true from a2G.mpr hnd] at k2
 repeat' ((conv=>whnf);first | (with_reducible refine sC (by kernel_rfl) ?_) | ((first | (with_reducible first | refine sB ?_ | refine x8 ?_ | refine x9 ?_) | refine sP (by rfl) ?_);first | refine oT ?_ | refine oF ?_ | (refine Or.inr (Or.inr ⟨fun hsp=>?_,fun hsp=>?_⟩) <;>(try simp only [nm,List.length_map] at hsp) <;>try subst hsp)) | refine ⟨_,_,kT,?_⟩ | refine ⟨_,_,kF,?_⟩ | refine ⟨_,_,kD,?_⟩ | refine ⟨_,_,k1,?_⟩ | refine ⟨_,_,k2,?_⟩ | refine sS (e8 (by rfl) (by rfl) (by omega) hrow) ?_ | fail)
 all_goals (conv=>whnf)
 all_goals (first | exact PV.le.refl _ | (exfalso;omega) | ((repeat' (first | (with_reducible exact PV.le.refl _) | exact PV.le.emp _ | exact K3.nil | (with_reducible refine x6 ?_) | (with_reducible refine s7 ?_) | (refine K3.cons ?_ ?_) | (with_reducible refine l8 ?_) | (with_reducible refine y5 ?_) | (with_reducible refine E2 ?_) | (with_reducible refine C7 ?_) | (with_reducible refine u3 ?_) | (refine E7 ?_))) <;>(first | rfl | exact PV.le.refl _ | (simp;done) | (refine le_of_eq ?_;simp;done))))
end Go.Ab.Td
namespace Go.Ab.Td
set_option maxRecDepth 100000
set_option maxRecDepth 100000
open Go Go.Ab
variable {P:Program}
set_option linter.unusedSimpArgs false
attribute [local irreducible] d8
set_option maxHeartbeats 8000000 in
theorem a9k (C:Laid P) (s t:B4) (e:Int) (hr:j6 P G o4 [aS s] [] (.v9 [aS t,pI e])):j6 P G B0 [aS s,.str [118,109,115,116,97,116,117,115]] [] (.v9 [aS t,pI e]):=by
 refine i7 C (a4L C) rfl ?_
 repeat' ((conv=>whnf);first | (with_reducible refine sC (by kernel_rfl) ?_) | ((first | (with_reducible first | refine sB ?_ | refine x8 ?_ | refine x9 ?_) | refine sP (by rfl) ?_);first | refine oT ?_ | refine oF ?_ | (refine Or.inr (Or.inr ⟨fun hsp=>?_,fun hsp=>?_⟩) <;>(try simp only [nm] at hsp) <;>try subst hsp)) | refine ⟨_,_,hr,?_⟩ | fail)
 all_goals (conv=>whnf)
 all_goals (exact PV.le.refl _)
set_option maxHeartbeats 8000000 in
theorem b2x (C:Laid P) (s:B4):j6 P G B0 [aS s,.str [102,114,101,101]] [] (.v9 [aS s,pI 24]):=by
 refine i7 C (a4L C) rfl ?_
 repeat' ((conv=>whnf);first | (with_reducible refine sC (by kernel_rfl) ?_) | ((first | (with_reducible first | refine sB ?_ | refine x8 ?_ | refine x9 ?_) | refine sP (by rfl) ?_);first | refine oT ?_ | refine oF ?_ | (refine Or.inr (Or.inr ⟨fun hsp=>?_,fun hsp=>?_⟩) <;>(try simp only [nm] at hsp) <;>try subst hsp)) | fail)
 all_goals (conv=>whnf)
 all_goals (exact PV.le.refl _)
end Go.Ab.Td
namespace Go.Ab.Td
set_option maxRecDepth 100000
set_option maxRecDepth 100000
open Go Go.Ab
variable {P:Program}
set_option linter.unusedSimpArgs false
def SX (s:B4):Prop:=∀ o ∈ s.ops,o.kind=12→o=svO o.n
theorem b0g (n:Int):∀ (l:List Sn) (s:Nat),plF n s l= -1∨∃ (i:Nat) (x:Sn),plF n s l=((s+i:Nat):Int)∧l[i]?=some x
 | [],_=>.inl rfl
 | y::l,s=>by
   unfold plF
   by_cases h:y.n=n
   ·rw [if_pos h];exact .inr ⟨0,y,rfl,rfl⟩
   ·rw [if_neg h]
    rcases b0g n l (s+1) with e | ⟨i,x,e,hx⟩
    ·exact .inl e
    ·exact .inr ⟨i+1,x,by rw [e];congr 1;omega,by simpa using hx⟩
def c5Y (P:Program) (op:List UInt8) (s t:B4) (e:Int):Prop:=j6 P G B0 [aS s,.str op] [] (.v9 [aS t,pI e])∧j6 P G q8 [aS s,.str op] [] (.v9 [aS t,pI e])
def Next (P:Program) (F:Prop) (m:Nat) (op:List UInt8) (s:B4):Prop:=∃ (t:B4) (e:Int) (l:List Sn) (ts:List B4),SI F (m+1) t l ts∧SX t∧c5Y P op s t e
section
variable (C:Laid P) {F:Prop} {m:Nat} {s:B4} {l:List Sn} {ts:List B4} (t:SI F m s l ts) (sx:SX s)
include C t sx
theorem b8R (hm:m<1000000):Next P F m [115,97,118,101] s:=by
 have e3:s.f3.length=l.length:=by rw [t.h3,List.length_map]
 have e62:s.f62.length=l.length:=by rw [t.h62,List.length_map,t.tl]
 by_cases h10:10≤l.length
 ·exact ⟨s,26,l,ts,t.more (by omega),sx,a3i C s s 26 (b6A C s (.inl (by omega))),b0X C s (.inl (by omega))⟩
 ·by_cases ho:s.ops.length<100
  ·refine ⟨svS s,0,_,_,t.save hm (by omega) ho,fun o hx hk=>?_,a3i C s _ 0 (a7h C s (by omega) (by omega) ho),b6y C s l ts t.h3 t.h62 (by omega) (by have:=t.tl;omega) ho⟩
   rcases List.mem_append.1 (show o ∈ s.ops++[svO (IntKind.i64.wrap (s.f4+1))] from hx) with hx | hx
   ·exact sx o hx hk
   ·simp only [List.mem_singleton] at hx;subst hx;rfl
  ·have:=t.ol
   exact ⟨s,21,l,ts,t.more (by omega),sx,a3i C s s 21 (b5m C s (by omega) (by omega) (by omega) (by omega)),b0b C s l ts t.h3 t.h62 (by omega) (by have:=t.tl;omega) (by omega) (by omega)⟩
theorem c4u:Next P F m [118,109,115,116,97,116,117,115] s:=by
 have hl:=t.sh.len
 have ol:=t.ol
 by_cases ho:s.ops.length≤97
 ·have e3:s.f3.length=l.length:=by rw [t.h3,List.length_map]
  have ll:=t.ll
  have tot:=t.sh.tot
  have hv:=t.sh.v.2
  have mem:∀ p ∈ s.ops++vmL s,p ∈ s.ops∨∃ n:Int,p=⟨3,false,n,[],0,0,0⟩∧0≤n∧n≤20000:=by
   intro p hp
   rcases List.mem_append.1 hp with hp | hp
   ·exact .inl hp
   ·simp only [vmL,List.mem_cons,List.not_mem_nil,or_false] at hp
    rcases hp with rfl | rfl | rfl
    ·exact .inr ⟨_,rfl,by omega,by omega⟩
    ·exact .inr ⟨_,rfl,by omega,by omega⟩
    ·exact .inr ⟨_,rfl,by omega,by omega⟩
  refine ⟨{s with ops:=s.ops++vmL s},0,l,ts,(t.b0l (ops:=s.ops++vmL s) (by rw [List.length_append];show s.ops.length+3≤100;omega) (fun hF p hp=>?_) (fun p hp=>?_)).more (by omega),fun p hp hk=>?_,a9k C s _ 0 (c7q C s (by omega) ho),c0d C s (by omega) ho⟩
  ·rcases mem p hp with hp | ⟨n,rfl,h0,h1⟩
   ·exact t.of' hF p hp
   ·exact fits_int (by omega) (by omega) false
  ·rcases mem p hp with hp | ⟨n,rfl,h0,h1⟩
   ·exact t.on p hp
   ·dsimp only;omega
  ·rcases mem p hp with hp | ⟨n,rfl,h0,h1⟩
   ·exact sx p hp hk
   ·simp at hk
 ·exact ⟨s,21,l,ts,t.more (by omega),sx,a9k C s s 21 (b7D C s (by omega) (by omega) (by omega)),b2t C s (by omega) (by omega) (by omega)⟩
theorem b1L:Next P F m [114,101,115,116,111,114,101] s:=by
 have W4:∀ e:Int,c5Y P [114,101,115,116,111,114,101] s s e→Next P F m [114,101,115,116,111,114,101] s:=fun e h=>⟨s,e,l,ts,t.more (by omega),sx,h⟩
 have ll:=t.ll
 rcases List.eq_nil_or_concat s.ops with h0 | ⟨lo,o,hop⟩
 ·exact W4 20 ⟨C9 C s s 20 (b0c C s h0),b5l C s h0⟩
 ·rw [List.concat_eq_append] at hop
  have ol:=t.ol
  rw [hop] at ol
  simp at ol
  have hom:o ∈ s.ops:=by rw [hop];simp
  by_cases hk:o.kind=12
  ·have ho:=sx o hom hk
   have hopn:s.ops=lo++[svO o.n]:=by rw [← ho];exact hop
   rcases b0g o.n l 0 with e | ⟨i,x,e,hx⟩
   ·exact W4 34 ⟨C9 C s s 34 (b3C C s l lo o.n hopn t.h3 (by omega) (by omega) (by omega)),c0c C s lo o hop (by omega) l t.h3 (by omega) hk (by omega)⟩
   ·rw [Nat.zero_add] at e
    obtain ⟨xn,xh,xs⟩:=x
    obtain ⟨hst, -, -⟩:=t.sv i _ hx
    dsimp only at hst
    subst hst
    have hi:=(List.getElem?_eq_some_iff.1 hx).1
    obtain ⟨g,hg⟩:∃ g,ts[i]?=some g:=⟨_,List.getElem?_eq_getElem (by have:=t.tl;omega)⟩
    have hg2:s.f62[i]?=some (grO g):=by rw [t.h62,List.getElem?_map,hg];rfl
    have dl:=t.dl
    by_cases hnw:∃ o ∈ lo,n7 xh.length o
    ·exact W4 34 ⟨C9 C s s 34 (a9i C s lo o hop (by omega) l t.h3 (by omega) o.n ho (by omega) i xn xh i e hx hnw),b3z C s lo o hop (by omega) l t.h3 (by omega) o.n ho (by omega) i xn xh i e hx hnw⟩
    ·by_cases hnd:∃ o ∈ s.d9,n7 xh.length o
     ·exact W4 34 ⟨C9 C s s 34 (a9j C s lo o hop (by omega) l t.h3 (by omega) o.n ho (by omega) i xn xh i e hx hnw hnd),b3A C s lo o hop (by omega) l t.h3 (by omega) o.n ho (by omega) i xn xh i e hx hnw hnd⟩
     ·refine ⟨rsS s lo xh g i i,0,l.take i,ts.take i,(t.restore hop hx g hnw hnd).more (by omega),fun p hp hk=>?_,C9 C s _ 0 (b2w C s l lo o.n hopn t.h3 (by omega) (by omega) (by omega) i i e xn xh hx g hg2 hnw hnd),b7C C s lo o hop (by omega) (by omega) l t.h3 (by omega) o.n ho (by omega) i xn xh i e hx g hg2 hnw hnd⟩
      exact sx p (by rw [hop];exact List.mem_append_left _ hp) hk
  ·exact W4 22 ⟨C9 C s s 22 (b0Y C s lo o hop (by omega) hk),b6z C s lo o hop (by omega) hk⟩
end
end Go.Ab.Td
namespace Go.Ab.Td.TdW18
set_option maxRecDepth 100000
set_option maxRecDepth 100000
open Go Go.Ab Go.Ab.Td
variable {P:Program}
set_option linter.unusedSimpArgs false
def a0O:TF:=(.node (.node (.node (.node (.node (.node (.node (.leaf A2 G8) (.node (.leaf S4 a3x) (.leaf S8 a0p))) .nil) (.node (.node (.leaf U7 a2t) (.leaf P0 a1X)) (.leaf x5 A5))) (.node (.node (.node (.leaf l0 M8) (.leaf k8 F4)) (.leaf o6 R8)) (.node .nil (.node (.leaf A6 G0) (.leaf W7 a3Z))))) (.node (.node (.leaf L7 R9) (.leaf E9 U0)) (.node (.leaf n5 K8) (.node (.leaf M6 a3B) (.node (.node (.leaf N7 a2n) (.leaf B2 F5)) (.leaf J3 R0)))))) (.node (.node (.node .nil (.node (.node (.leaf u5 N2) (.leaf a1v a4a)) (.leaf C5 H9))) (.node (.node (.leaf x7 W2) (.node (.node (.leaf O0 a2u) (.leaf F7 a0r)) (.leaf P3 W1))) (.node .nil (.node (.leaf O1 Z1) (.leaf B8 J9))))) (.node (.node (.node .nil (.node (.node (.leaf C3 a1H) (.leaf y8 D6)) .nil)) (.node (.leaf o0 C2) (.node (.leaf x4 A4) (.leaf K0 a1p)))) (.node (.node (.node (.leaf u9 K9) (.leaf U5 a2q)) (.leaf n6 L0)) (.node (.leaf O3 a2v) (.leaf A0 G6)))))) (.node (.node (.node (.node (.leaf N8 a2o) (.node (.node (.leaf W9 a1r) (.leaf a3g a7O)) (.node (.node (.leaf W8 a4b) (.leaf S9 a0q)) .nil))) (.node (.node (.node (.leaf v3 a0s) (.leaf y1 N0)) (.leaf D4 O6)) (.node (.leaf n8 Q9) (.node (.leaf C8 a0t) (.leaf a6S a9C))))) (.node (.leaf y3 C1) (.node (.node (.leaf A9 F3) (.node (.leaf V0 a0Z) (.leaf p7 J8))) (.node .nil (.node (.leaf a0G a2s) (.leaf z9 G5)))))) (.node (.node (.node (.leaf a1u a3W) (.node (.leaf E0 V6) (.node (.node (.leaf P6 a4e) (.leaf O8 Y0)) .nil))) (.node .nil (.node (.leaf B9 a2w) (.leaf O9 Y1)))) (.node (.node (.node (.leaf K1 a1s) (.leaf s9 y2)) (.node (.leaf u0 L1) (.node (.leaf I8 Q8) (.leaf U4 a9B)))) (.node (.node (.node (.leaf D7 K4) (.leaf o3 a5g)) .nil) (.node (.leaf p8 U1) (.node (.node (.leaf a0a a5d) (.leaf I7 Q7)) (.leaf A1 G7))))))))
def a0P:TF:=.nil
def b2S:TF:=(.node (.node (.node (.leaf l0 M8) (.leaf J3 R0)) (.node .nil (.node (.leaf K0 a1p) (.leaf U5 a2q)))) (.node (.leaf p7 J8) (.leaf O9 Y1)))
def b2T:TF:=.nil
def ext (_:Nat):Option a1V:=none
theorem c1a (C:Laid P):a0O.all (b9 P)=true:=by simp only [a0O,TF.all,a0B C,a6j C,a5s C,b3j C,b3s C,a1i C,a8P C,b2a C,b0F C,a8Q C,b3e C,a4i C,F6 C,a3d C,Z8 C,a8S C,b5a C,b0U C,b7u C,b3i C,a1j C,a3a C,a1Z C,a4g C,W3 C,a7x C,b9V C,b3h C,b9W C,a4j C,a5H C,a3I C,a3s C,a3t C,a3u C,a3v C,U3 C,a2B C,a4h C,a1g C,a1h C,a2i C,a8U C,a7A C,a3e C,a7e C,a1O C,a4K C,a2C C,a3J C,a5u C,a3b C,S3 C,V9 C,L4 C,a6q C,a9S C,a4J C,Q4 C,a6p C,a1N C,a5F C,Q2 C,a3G C,a0U C,a8X C,a7W C,Z9 C,a8T C,a3F C,a6o C,Bool.and_self]
theorem c1c (_C:Laid P):a0P.all (b9 P)=true:=by simp only [a0P,TF.all,Bool.and_self]
theorem c1b (C:Laid P):b2S.all (b9 P)=true:=by simp only [b2S,TF.all,a5H C,a3I C,U3 C,W3 C,a7x C,a8S C,Bool.and_self]
theorem c1d (_C:Laid P):b2T.all (Q1 P)=true:=by simp only [b2T,TF.all,Bool.and_self]
theorem b6a:a3w P G fun g=>(ext g).map a5Q:=by
 intro g h hg
 cases hg
theorem a8Z:∀ g ps own r,kn0 g ps=some (own,r)→j6 P G g ps own r:=fun _ _ _ _ h=>by cases h
theorem run:isR [] (.bool true) ((a4A G kn0 ext b2S.fn b2T.fn a0O.fn a0P.fn 10000 20).call W8 [])=true:=by kernel_rfl
theorem ok (C:Laid P):j6 P G W8 [] [] (.bool true):=a6U C.mixed a8Z b6a (TF.b8 (c1b C)) (TF.b8 (c1d C)) (TF.b8 (c1a C)) (TF.b8 (c1c C)) (b4U run)
end Go.Ab.Td.TdW18
namespace Go.Ab.Td
set_option maxRecDepth 100000
open Go Go.Ab
variable {P:Program}
set_option linter.unusedSimpArgs false
set_option linter.unusedVariables false
attribute [local irreducible] d8
end Go.Ab.Td

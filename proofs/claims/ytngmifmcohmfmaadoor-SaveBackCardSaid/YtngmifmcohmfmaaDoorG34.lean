/- A part of the proof: the texts TdUe, TdSe, TdUf. Under: nothing. -/
import Derived.Test.YtngmifmcohmfmaaDoorG32
import Derived.Test.YtngmifmcohmfmaaDoorG08
import Derived.Test.YtngmifmcohmfmaaDoorG05
set_option linter.unusedVariables false
namespace Go.Ab.Td
set_option maxRecDepth 100000
set_option maxRecDepth 100000
open Go Go.Ab
variable {P:Program}
set_option linter.unusedSimpArgs false
attribute [local irreducible] e9
set_option maxHeartbeats 8000000 in
theorem b8Y (C:Laid P) (s:v9) (lo:List Ob) (o:Ob) (hop:s.ops=lo++[o]) (ho:lo.length≤1000) (hlo:lo.length≤99) (l:List Sn) (hq:s.f3=l.map w7) (hl1:l.length≤1000) (n:Int) (hn:o=svO n) (hd:s.e6.length≤1000) (i:Nat) (xn:Int) (xh:List Cl) (j:Nat) (hp:plF n 0 l=(i:Int)) (hx:l[i]?=some ⟨xn,xh,(j:Int)⟩) (t:v9) (ht:s.f62[j]?=some (grO t)) (hnw:¬ ∃ o ∈ lo,n7 (xh.length:Int) o) (hnd:¬ ∃ o ∈ s.e6,n7 (xh.length:Int) o):j4 P G B1 [aS s,.str [114,101,115,116,111,114,101]] [] (.x6 [aS (rsS s lo xh t i j),pI 0]):=by
 refine i5 C (H5 C) rfl ?_
 have hl:s.ops.length=lo.length+1:=by rw [hop];simp
 have hw:IntKind.i64.wrap (((lo.length+1:Nat):Int) - 1)=(lo.length:Int):=by rw [wrap_small (by omega) (by omega)];omega
 have hw2:IntKind.i64.wrap ((s.ops.length:Int) - 1)=(lo.length:Int):=by rw [hl];exact hw
 have hrO:(List.map i4 s.ops)[(IntKind.i64.wrap ((s.ops.length:Int) - 1)).toNat]?=some (i4 o):=by rw [hw2,hop];simp
 have h0:0≤IntKind.i64.wrap ((s.ops.length:Int) - 1):=by omega
 have hmv:IntKind.i64.wrap (((List.map i4 s.ops).length:Int) - 1)=(lo.length:Int):=by rw [List.length_map];exact hw2
 subst hn
 have kP:=a1f C s l n hq (by omega)
 rw [hp] at kP
 have hl3:s.f3.length=l.length:=by rw [hq,List.length_map]
 have hil:=(List.getElem?_eq_some_iff.1 hx).1
 have hrow:s.f3[(i:Int).toNat]?=some (w7 ⟨xn,xh,(j:Int)⟩):=by rw [hq];exact y9 (f:=w7) hx
 have hsl:(s.ops.take (lo.length:Int).toNat).drop (0:Int).toNat=lo:=by rw [hop];simp
 have k1:=O3 C lo (((List.map j8 xh).length:Nat):Int) (by omega)
 have k2:=O3 C s.e6 (((List.map j8 xh).length:Nat):Int) (by omega)
 have hsl2:List.map i4 ((s.ops.take (IntKind.i64.wrap (((List.map i4 s.ops).length:Int) - 1)).toNat).drop (0:Int).toNat)=List.map i4 lo:=by rw [hmv,hsl]
 rw [List.length_map,show tt (∃ o ∈ lo,n7 (xh.length:Int) o)=false from I2.mpr hnw,← List.length_map (f:=j8) (as:=xh)] at k1
 rw [List.length_map,show tt (∃ o ∈ s.e6,n7 (xh.length:Int) o)=false from I2.mpr hnd,← List.length_map (f:=j8) (as:=xh)] at k2
 have kI:=G7 C s 1 [] (by decide) (by omega) (by simp;omega) (by omega) (by simp)
 rw [List.append_nil,show s.ops.take (s.ops.length - (1:Int).toNat)=lo by rw [hop];simp] at kI
 have kI2:=b0r kI (.cons (.refl _) (.cons (.refl _) (.cons (.emp 7) .nil)))
 have hjl:=(List.getElem?_eq_some_iff.1 ht).1
 have hrow2:s.f62[(j:Int).toNat]?=some (grO t):=by simpa using ht
 repeat' ((conv=>whnf);first | (with_reducible refine sC (by kernel_rfl) ?_) | ((first | (with_reducible first | refine sB ?_ | refine o5 ?_ | refine o6 ?_) | refine sP (by rfl) ?_);first | refine Or.inl ⟨by first | assumption | (simp only [nm,List.length_map,hl];first | done | assumption | omega),?_⟩ | refine Or.inr (Or.inl ⟨by first | assumption | (simp only [nm,List.length_map,hl];first | done | assumption | omega),?_⟩) | (refine Or.inr (Or.inr ⟨fun hsp=>?_,fun hsp=>?_⟩) <;>(try simp only [nm,List.length_map,hl] at hsp) <;>try subst hsp)) | refine ⟨_,_,kP,?_⟩ | refine ⟨_,_,(by first | exact k1 | (rw [hsl2];exact k1)),?_⟩ | refine ⟨_,_,k2,?_⟩ | refine ⟨_,_,kI2,?_⟩ | refine sS (e7 (j:=IntKind.i64.wrap ((s.ops.length:Int) - 1)) (by rfl) (by first | rfl | (simp only [List.length_map];rfl)) h0 hrO) ?_ | refine sS (e7 (by rfl) (by rfl) (by omega) hrow) ?_ | refine sS (e7 (by rfl) (by rfl) (by omega) hrow2) ?_ | refine sS (b4c (rows:=s.f62) (l:=0) (h:=(j:Int)) (by rfl) (by rfl) (by rfl) (by omega) (by omega) (by omega)) ?_ | refine sS (b4c (rows:=s.f3) (l:=0) (h:=(i:Int)) (by rfl) (by rfl) (by rfl) (by omega) (by omega) (by omega)) ?_ | refine sS (U1 (f:=i4) (l:=s.ops) (a:=0) (h:=IntKind.i64.wrap (((List.map i4 s.ops).length:Int) - 1)) (by rfl) (by rfl) (by rfl) (by omega) (by omega) (by omega)) ?_ | fail)
 all_goals (conv=>whnf)
 all_goals ((repeat' (first | (with_reducible exact PV.le.refl _) | exact PV.le.emp _ | exact I3.nil | (with_reducible refine w5 ?_) | (with_reducible refine p8 ?_) | (refine I3.cons ?_ ?_) | (with_reducible refine j9 ?_) | (with_reducible refine x8 ?_) | (with_reducible refine A0 ?_) | (with_reducible refine y3 ?_) | (with_reducible refine q9 ?_) | (refine A3 ?_))) <;>(first | rfl | exact PV.le.refl _ | (simp [rsS];done)))
end Go.Ab.Td
namespace Go.Ab.Td
set_option maxRecDepth 100000
set_option maxRecDepth 100000
open Go Go.Ab
variable {P:Program}
set_option linter.unusedSimpArgs false
attribute [local irreducible] e9
set_option maxHeartbeats 8000000 in
theorem a3S (C:Laid P) (s t:v9) (e:Int) (hr:j4 P G w8 [aS s] [] (.x6 [aS t,pI e])):j4 P G A5 [aS s,.str [115,97,118,101]] [] (.x6 [aS t,pI e]):=by
 refine i5 C (a7N C) rfl ?_
 repeat' ((conv=>whnf);first | (with_reducible refine sC (by kernel_rfl) ?_) | ((first | (with_reducible first | refine sB ?_ | refine o5 ?_ | refine o6 ?_) | refine sP (by rfl) ?_);first | refine oT ?_ | refine oF ?_ | (refine Or.inr (Or.inr ⟨fun hsp=>?_,fun hsp=>?_⟩) <;>(try simp only [nm] at hsp) <;>try subst hsp)) | refine ⟨_,_,hr,?_⟩ | fail)
 all_goals (conv=>whnf)
 all_goals (exact PV.le.refl _)
set_option maxHeartbeats 8000000 in
theorem B4 (C:Laid P) (s t:v9) (e:Int) (hr:j4 P G k7 [aS s] [] (.x6 [aS t,pI e])):j4 P G A5 [aS s,.str [114,101,115,116,111,114,101]] [] (.x6 [aS t,pI e]):=by
 refine i5 C (a7N C) rfl ?_
 repeat' ((conv=>whnf);first | (with_reducible refine sC (by kernel_rfl) ?_) | ((first | (with_reducible first | refine sB ?_ | refine o5 ?_ | refine o6 ?_) | refine sP (by rfl) ?_);first | refine oT ?_ | refine oF ?_ | (refine Or.inr (Or.inr ⟨fun hsp=>?_,fun hsp=>?_⟩) <;>(try simp only [nm] at hsp) <;>try subst hsp)) | refine ⟨_,_,hr,?_⟩ | fail)
 all_goals (conv=>whnf)
 all_goals (exact PV.le.refl _)
end Go.Ab.Td
namespace Go.Ab.Td
set_option maxRecDepth 100000
set_option maxRecDepth 100000
open Go Go.Ab
variable {P:Program}
set_option linter.unusedSimpArgs false
attribute [local irreducible] e9
def vmL (s:v9):List Ob:=[⟨3,false,(s.f3.length:Int),[],0,0,0⟩,⟨3,false,o7 0 s.heap,[],0,0,0⟩,⟨3,false,20000,[],0,0,0⟩]
set_option maxHeartbeats 4000000 in
theorem b0i (C:Laid P) (s:v9) (l:List Ob) (hl:100<s.ops.length+l.length) (h1:s.ops.length≤1000) (h2:l.length≤1000):j4 P G D8 [aS s,.sl 7 (List.map i4 l)] [] (.x6 [aS s,pI 21]):=by
 refine i5 C (a3c C) rfl ?_
 have hw:IntKind.i64.wrap ((s.ops.length:Int)+l.length)=(s.ops.length:Int)+l.length:=wrap_small (by omega) (by omega)
 repeat' ((conv=>whnf);first | (with_reducible refine sC (by kernel_rfl) ?_) | ((first | (with_reducible first | refine sB ?_ | refine o5 ?_ | refine o6 ?_) | refine sP (by rfl) ?_);first | refine Or.inl ⟨by first | assumption | (simp only [nm,List.length_map,hw];first | done | assumption | omega),?_⟩ | refine Or.inr (Or.inl ⟨by first | assumption | (simp only [nm,List.length_map,hw];first | done | assumption | omega),?_⟩) | (refine Or.inr (Or.inr ⟨fun hsp=>?_,fun hsp=>?_⟩) <;>(try simp only [nm,List.length_map,hw] at hsp) <;>try subst hsp)) | fail)
 all_goals (conv=>whnf)
 all_goals (first | exact PV.le.refl _ | (exfalso;omega) | ((repeat' (first | (with_reducible exact PV.le.refl _) | exact PV.le.emp _ | exact I3.nil | (with_reducible refine w5 ?_) | (with_reducible refine p8 ?_) | (refine I3.cons ?_ ?_) | (with_reducible refine j9 ?_) | (with_reducible refine x8 ?_) | (with_reducible refine A0 ?_) | (with_reducible refine y3 ?_) | (with_reducible refine q9 ?_) | (refine A3 ?_))) <;>(first | rfl | exact PV.le.refl _ | (simp;done) | (refine le_of_eq ?_;simp;done))))
set_option maxHeartbeats 4000000 in
theorem a6Q (C:Laid P) (s:v9) (l:List Ob) (hl:100<s.ops.length+l.length) (h1:s.ops.length≤1000) (h2:l.length≤1000):j4 P G u3 [aS s,pI 0,.sl 7 (List.map i4 l)] [] (.x6 [aS s,pI 21]):=by
 refine i5 C (a6K C) rfl ?_
 have hw0:IntKind.i64.wrap ((s.ops.length:Int) - 0)=(s.ops.length:Int):=by rw [wrap_small (by omega) (by omega)];omega
 have hw:IntKind.i64.wrap ((s.ops.length:Int)+l.length)=(s.ops.length:Int)+l.length:=wrap_small (by omega) (by omega)
 repeat' ((conv=>whnf);first | (with_reducible refine sC (by kernel_rfl) ?_) | ((first | (with_reducible first | refine sB ?_ | refine o5 ?_ | refine o6 ?_) | refine sP (by rfl) ?_);first | refine Or.inl ⟨by first | assumption | (simp only [nm,List.length_map,hw0,hw];first | done | assumption | omega),?_⟩ | refine Or.inr (Or.inl ⟨by first | assumption | (simp only [nm,List.length_map,hw0,hw];first | done | assumption | omega),?_⟩) | (refine Or.inr (Or.inr ⟨fun hsp=>?_,fun hsp=>?_⟩) <;>(try simp only [nm,List.length_map,hw0,hw] at hsp) <;>try subst hsp)) | fail)
 all_goals (conv=>whnf)
 all_goals (first | exact PV.le.refl _ | (exfalso;omega) | ((repeat' (first | (with_reducible exact PV.le.refl _) | exact PV.le.emp _ | exact I3.nil | (with_reducible refine w5 ?_) | (with_reducible refine p8 ?_) | (refine I3.cons ?_ ?_) | (with_reducible refine j9 ?_) | (with_reducible refine x8 ?_) | (with_reducible refine A0 ?_) | (with_reducible refine y3 ?_) | (with_reducible refine q9 ?_) | (refine A3 ?_))) <;>(first | rfl | exact PV.le.refl _ | (simp;done) | (refine le_of_eq ?_;simp;done))))
set_option maxHeartbeats 8000000 in
theorem c9a (C:Laid P) (s:v9) (hh:s.heap.length≤1000) (ho:s.ops.length≤97):j4 P G s7 [aS s] [] (.x6 [aS {s with ops:=s.ops++vmL s},pI 0]):=by
 refine i5 C (Q0 C) rfl ?_
 have kP:=a8E C s (vmL s) (by show s.ops.length+3≤100;omega)
 repeat' ((conv=>whnf);first | (with_reducible refine sC (by kernel_rfl) ?_) | ((first | (with_reducible first | refine sB ?_ | refine o5 ?_ | refine o6 ?_) | refine sP (by rfl) ?_);first | refine oT ?_ | refine oF ?_ | (refine Or.inr (Or.inr ⟨fun hsp=>?_,fun hsp=>?_⟩) <;>(try simp only [nm,List.length_map] at hsp) <;>try subst hsp)) | refine ⟨_,_,a2d C s.heap (by omega),?_⟩ | refine ⟨_,_,kP,?_⟩ | refine sS (o3 (f:=i4) (x':=[⟨_,_,_,_,_,_,_⟩]) (by rfl) (by first | exact f0 | exact d8 | exact d9 (by rfl) (by rfl)) (by rfl) (by (try simp only [ln]);omega)) ?_ | refine sS (m0 (f:=i4) (x':=[⟨_,_,_,_,_,_,_⟩]) (by rfl) (by rfl) (by first | rfl | simp) (by first | exact f0 | exact d8 | exact d9 (by rfl) (by rfl)) (by rfl) (by (try simp only [ln]);omega)) ?_ | (intro X hX hW) | refine hX _ ?_ | fail)
 all_goals (conv=>whnf)
 all_goals (first | exact PV.le.refl _ | (exfalso;omega) | ((repeat' (first | (with_reducible exact PV.le.refl _) | exact PV.le.emp _ | exact I3.nil | (with_reducible refine w5 ?_) | (with_reducible refine p8 ?_) | (refine I3.cons ?_ ?_) | (with_reducible refine j9 ?_) | (with_reducible refine x8 ?_) | (with_reducible refine A0 ?_) | (with_reducible refine y3 ?_) | (with_reducible refine q9 ?_) | (refine A3 ?_))) <;>(first | rfl | exact PV.le.refl _ | (simp;done) | (refine le_of_eq ?_;simp;done))))
set_option maxHeartbeats 8000000 in
theorem b8Z (C:Laid P) (s:v9) (hh:s.heap.length≤1000) (ho:97<s.ops.length) (h1:s.ops.length≤1000):j4 P G s7 [aS s] [] (.x6 [aS s,pI 21]):=by
 refine i5 C (Q0 C) rfl ?_
 have kP:=b0i C s (vmL s) (by show 100<s.ops.length+3;omega) h1 (by show 3≤1000;decide)
 repeat' ((conv=>whnf);first | (with_reducible refine sC (by kernel_rfl) ?_) | ((first | (with_reducible first | refine sB ?_ | refine o5 ?_ | refine o6 ?_) | refine sP (by rfl) ?_);first | refine oT ?_ | refine oF ?_ | (refine Or.inr (Or.inr ⟨fun hsp=>?_,fun hsp=>?_⟩) <;>(try simp only [nm,List.length_map] at hsp) <;>try subst hsp)) | refine ⟨_,_,a2d C s.heap (by omega),?_⟩ | refine ⟨_,_,kP,?_⟩ | refine sS (o3 (f:=i4) (x':=[⟨_,_,_,_,_,_,_⟩]) (by rfl) (by first | exact f0 | exact d8 | exact d9 (by rfl) (by rfl)) (by rfl) (by (try simp only [ln]);omega)) ?_ | refine sS (m0 (f:=i4) (x':=[⟨_,_,_,_,_,_,_⟩]) (by rfl) (by rfl) (by first | rfl | simp) (by first | exact f0 | exact d8 | exact d9 (by rfl) (by rfl)) (by rfl) (by (try simp only [ln]);omega)) ?_ | (intro X hX hW) | refine hX _ ?_ | fail)
 all_goals (conv=>whnf)
 all_goals (first | exact PV.le.refl _ | (exfalso;omega) | ((repeat' (first | (with_reducible exact PV.le.refl _) | exact PV.le.emp _ | exact I3.nil | (with_reducible refine w5 ?_) | (with_reducible refine p8 ?_) | (refine I3.cons ?_ ?_) | (with_reducible refine j9 ?_) | (with_reducible refine x8 ?_) | (with_reducible refine A0 ?_) | (with_reducible refine y3 ?_) | (with_reducible refine q9 ?_) | (refine A3 ?_))) <;>(first | rfl | exact PV.le.refl _ | (simp;done) | (refine le_of_eq ?_;simp;done))))
end Go.Ab.Td

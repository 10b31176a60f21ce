/- A part of the proof: the texts TdUa, TdUb, TdUc, TdUd, TdUe. Under: nothing. -/
import Derived.Test.YtngmifmcohmfmaaDoorG10
import Derived.Test.YtngmifmcohmfmaaDoorG13
import Derived.Test.YtngmifmcohmfmaaDoorG14
namespace Go.Ab.Td
set_option maxRecDepth 100000
set_option maxRecDepth 100000
open Go Go.Ab
variable {P:Program}
set_option linter.unusedSimpArgs false
attribute [local irreducible] f0
set_option maxHeartbeats 1000000 in
theorem b2q (C:Laid P) (o:Ob) (n:Int):j7 P G a1Q [aO o,pI n] [] (.bool (tt (o4 n o))):=by
 refine i5 C (b3O C) rfl ?_
 repeat' ((conv=>whnf);first | (with_reducible refine sC (by kernel_rfl) ?_) | ((first | (with_reducible first | refine sB ?_ | refine o8 ?_ | refine o7 ?_) | refine sP (by rfl) ?_);first | refine oT ?_ | refine oF ?_ | (refine Or.inr (Or.inr ⟨fun hsp=>?_,fun hsp=>?_⟩) <;>(try simp only [nm] at hsp) <;>try subst hsp)) | refine ⟨_,_,a6I C o.kind o.exec o.n o.name o.ref o.off o.len,?_⟩ | fail)
 all_goals (conv=>whnf)
 all_goals (first | (with_reducible refine z6 ?_) | (with_reducible refine x6 ?_) | (refine z9 ?_;try simp (disch:=omega) only [nm,wrap_small])) <;>(grind [o4,Ob.comp])
set_option maxHeartbeats 1000000 in
theorem M7 (C:Laid P) (l:List Ob) (n:Int) (hl:l.length<2 ^ 62):j7 P G X4 [.sl 7 (List.map i6 l),pI n] [] (.bool (tt (∃ o ∈ l,o4 n o))):=by
 refine i5 C (b4f C) rfl ?_
 repeat' ((conv=>whnf);first | (with_reducible refine sC (by kernel_rfl) ?_) | ((first | (with_reducible first | refine sB ?_ | refine o8 ?_ | refine o7 ?_) | refine sP (by rfl) ?_);first | refine oT ?_ | refine oF ?_ | (refine Or.inr (Or.inr ⟨fun hsp=>?_,fun hsp=>?_⟩) <;>(try simp only [nm] at hsp) <;>try subst hsp)) | fail)
 all_goals (conv=>whnf)
 intro X hX hW
 refine a2x hX (fun st (i:Nat)=>st.upd [(5,.pv (pI (i:Int)))] []) (fun i k=>i+k=l.length∧∀ j,j<i→∀ o,l[j]?=some o→¬ o4 n o) 0 l.length (by (conv=>whnf);first | done | rfl) ⟨by simp,by intro j hj;omega⟩ ?_
 intro m i ih hI
 rcases a0E l i with ⟨x,hlt,hx⟩ | hge
 ·have hrow:=y2 (f:=i6) hx
  have kN:=b2q C x n
  by_cases hp:o4 n x
  ·rw [show tt (o4 n x)=true from S7.mpr hp] at kN
   repeat' ((conv=>whnf);first | (with_reducible refine sC (by kernel_rfl) ?_) | ((first | (with_reducible first | refine sB ?_ | refine o8 ?_ | refine o7 ?_) | refine sP (by rfl) ?_);first | refine oT ?_ | refine oF ?_ | (refine Or.inr (Or.inr ⟨fun hsp=>?_,fun hsp=>?_⟩) <;>(try simp only [nm,List.length_map] at hsp) <;>try subst hsp)) | refine ⟨_,_,kN,?_⟩ | refine sS (e7 (by rfl) (by rfl) (by omega) hrow) ?_ | fail)
   all_goals (conv=>whnf)
   all_goals exact z6 ⟨x,List.mem_of_getElem? hx,hp⟩
  ·rw [show tt (o4 n x)=false from G6.mpr hp] at kN
   repeat' ((conv=>whnf);first | (with_reducible refine sC (by kernel_rfl) ?_) | ((first | (with_reducible first | refine sB ?_ | refine o8 ?_ | refine o7 ?_) | refine sP (by rfl) ?_);first | refine oT ?_ | refine oF ?_ | (refine Or.inr (Or.inr ⟨fun hsp=>?_,fun hsp=>?_⟩) <;>(try simp only [nm,List.length_map] at hsp) <;>try subst hsp)) | refine ⟨_,_,kN,?_⟩ | refine sS (e7 (by rfl) (by rfl) (by omega) hrow) ?_ | fail)
   all_goals (conv=>whnf)
   all_goals (refine ih (m - 1) (i+1) _ (by omega) ⟨by (try dsimp only);omega,?_⟩ (by (conv=>whnf);first | done | rfl | (simp (disch:=omega) only [p9])))
   all_goals (intro j hj o ho;by_cases e:j<i;(·exact hI.2 j e o ho);have e2:j=i:=(by omega);subst e2;rw [hx] at ho;cases ho;exact hp)
 ·repeat' ((conv=>whnf);first | (with_reducible refine sC (by kernel_rfl) ?_) | ((first | (with_reducible first | refine sB ?_ | refine o8 ?_ | refine o7 ?_) | refine sP (by rfl) ?_);first | refine oT ?_ | refine oF ?_ | (refine Or.inr (Or.inr ⟨fun hsp=>?_,fun hsp=>?_⟩) <;>(try simp only [nm,List.length_map] at hsp) <;>try subst hsp)) | fail)
  all_goals (conv=>whnf)
  all_goals (refine x6 ?_;rintro ⟨o,ho,hp⟩;obtain ⟨q,hq⟩:=List.getElem?_of_mem ho;exact hI.2 q (by have:=(List.getElem?_eq_some_iff.1 hq).1;omega) o hq hp)
set_option maxHeartbeats 1000000 in
theorem a0A (C:Laid P) (s:F2) (l:List Sn) (n:Int) (hq:s.f3=l.map z7) (hl:l.length≤1000000):j7 P G a1K [aS s,pI n] [] (pI (plF n 0 l)):=by
 refine i5 C (b4k C) rfl ?_
 have hlen:s.f3.length=l.length:=by rw [hq,List.length_map]
 repeat' ((conv=>whnf);first | (with_reducible refine sC (by kernel_rfl) ?_) | ((first | (with_reducible first | refine sB ?_ | refine o8 ?_ | refine o7 ?_) | refine sP (by rfl) ?_);first | refine Or.inl ⟨by first | assumption | (simp only [nm,hlen];first | done | assumption | omega),?_⟩ | refine Or.inr (Or.inl ⟨by first | assumption | (simp only [nm,hlen];first | done | assumption | omega),?_⟩) | (refine Or.inr (Or.inr ⟨fun hsp=>?_,fun hsp=>?_⟩) <;>(try simp only [nm,hlen] at hsp) <;>try subst hsp)) | fail)
 all_goals (conv=>whnf)
 intro X hX hW
 refine a2x hX (fun st (i:Nat)=>st.upd [(5,.pv (pI (i:Int)))] []) (fun i k=>i+k=l.length∧plF n 0 l=plF n i (l.drop i)) 0 l.length (by (conv=>whnf);first | done | rfl) ⟨by simp,by simp⟩ ?_
 intro m i ih hI
 rcases a0E l i with ⟨x,hlt,hx⟩ | hge
 ·have hrow:s.f3[(i:Int).toNat]?=some (z7 x):=by rw [hq];exact y2 (f:=z7) hx
  have hd:=Z7 hx
  have hI2:=hI.2
  rw [hd] at hI2
  simp only [plF] at hI2
  by_cases hn:x.n=n
  ·rw [if_pos hn] at hI2
   rw [hI2]
   repeat' ((conv=>whnf);first | (with_reducible refine sC (by kernel_rfl) ?_) | ((first | (with_reducible first | refine sB ?_ | refine o8 ?_ | refine o7 ?_) | refine sP (by rfl) ?_);first | refine Or.inl ⟨by first | assumption | (simp only [nm,hlen];first | done | assumption | omega),?_⟩ | refine Or.inr (Or.inl ⟨by first | assumption | (simp only [nm,hlen];first | done | assumption | omega),?_⟩) | (refine Or.inr (Or.inr ⟨fun hsp=>?_,fun hsp=>?_⟩) <;>(try simp only [nm,hlen] at hsp) <;>try subst hsp)) | refine sS (e7 (by rfl) (by rfl) (by omega) hrow) ?_ | fail)
   all_goals (conv=>whnf)
   all_goals exact PV.le.refl _
  ·rw [if_neg hn] at hI2
   repeat' ((conv=>whnf);first | (with_reducible refine sC (by kernel_rfl) ?_) | ((first | (with_reducible first | refine sB ?_ | refine o8 ?_ | refine o7 ?_) | refine sP (by rfl) ?_);first | refine Or.inl ⟨by first | assumption | (simp only [nm,hlen];first | done | assumption | omega),?_⟩ | refine Or.inr (Or.inl ⟨by first | assumption | (simp only [nm,hlen];first | done | assumption | omega),?_⟩) | (refine Or.inr (Or.inr ⟨fun hsp=>?_,fun hsp=>?_⟩) <;>(try simp only [nm,hlen] at hsp) <;>try subst hsp)) | refine sS (e7 (by rfl) (by rfl) (by omega) hrow) ?_ | fail)
   all_goals (conv=>whnf)
   all_goals (refine ih (m - 1) (i+1) _ (by omega) ⟨by (try dsimp only);omega,hI2⟩ (by (conv=>whnf);first | done | rfl | (simp (disch:=omega) only [p9])))
 ·have hd:l.drop i=[]:=List.drop_eq_nil_of_le hge
  have hI2:=hI.2
  rw [hd] at hI2
  simp only [plF] at hI2
  rw [hI2]
  repeat' ((conv=>whnf);first | (with_reducible refine sC (by kernel_rfl) ?_) | ((first | (with_reducible first | refine sB ?_ | refine o8 ?_ | refine o7 ?_) | refine sP (by rfl) ?_);first | refine Or.inl ⟨by first | assumption | (simp only [nm,hlen];first | done | assumption | omega),?_⟩ | refine Or.inr (Or.inl ⟨by first | assumption | (simp only [nm,hlen];first | done | assumption | omega),?_⟩) | (refine Or.inr (Or.inr ⟨fun hsp=>?_,fun hsp=>?_⟩) <;>(try simp only [nm,hlen] at hsp) <;>try subst hsp)) | fail)
  all_goals (conv=>whnf)
  all_goals exact PV.le.refl _
end Go.Ab.Td
namespace Go.Ab.Td
set_option maxRecDepth 100000
set_option maxRecDepth 100000
open Go Go.Ab
variable {P:Program}
set_option linter.unusedSimpArgs false
attribute [local irreducible] f0
set_option maxHeartbeats 8000000 in
theorem b1D (C:Laid P) (s:F2) (h:10≤s.f3.length∨20≤s.f62.length):j7 P G A0 [aS s,.str [115,97,118,101]] [] (.x8 [aS s,pI 26]):=by
 refine i5 C (G8 C) rfl ?_
 repeat' ((conv=>whnf);first | (with_reducible refine sC (by kernel_rfl) ?_) | ((first | (with_reducible first | refine sB ?_ | refine o8 ?_ | refine o7 ?_) | refine sP (by rfl) ?_);first | refine oT ?_ | refine oF ?_ | (refine Or.inr (Or.inr ⟨fun hsp=>?_,fun hsp=>?_⟩) <;>(try simp only [nm,List.length_map] at hsp) <;>try subst hsp)) | fail)
 all_goals (conv=>whnf)
 all_goals (first | exact PV.le.refl _ | (exfalso;omega))
set_option maxHeartbeats 8000000 in
theorem b7c (C:Laid P) (s:F2) (l:List Sn) (ts:List F2) (hq:s.f3=l.map z7) (h62:s.f62=ts.map grO) (h3:l.length<10) (ht:ts.length<20) (ho:s.ops.length<100):j7 P G A0 [aS s,.str [115,97,118,101]] [] (.x8 [aS (svS s),pI 0]):=by
 refine i5 C (G8 C) rfl ?_
 have hl3:s.f3.length=l.length:=by rw [hq,List.length_map]
 have hl62:s.f62.length=ts.length:=by rw [h62,List.length_map]
 have kI:=F9 C s 0 [svO (IntKind.i64.wrap (s.f4+1))] (by decide) (by omega) (by simp;omega) (by omega) (by simp)
 rw [show s.ops.take (s.ops.length - (0:Int).toNat)=s.ops by simp] at kI
 repeat' ((conv=>whnf);first | (with_reducible refine sC (by kernel_rfl) ?_) | ((first | (with_reducible first | refine sB ?_ | refine o8 ?_ | refine o7 ?_) | refine sP (by rfl) ?_);first | refine Or.inl ⟨by first | assumption | (simp only [nm,List.length_map,hl3,hl62];first | done | assumption | omega),?_⟩ | refine Or.inr (Or.inl ⟨by first | assumption | (simp only [nm,List.length_map,hl3,hl62];first | done | assumption | omega),?_⟩) | (refine Or.inr (Or.inr ⟨fun hsp=>?_,fun hsp=>?_⟩) <;>(try simp only [nm,List.length_map,hl3,hl62] at hsp) <;>try subst hsp)) | refine ⟨_,_,kI,?_⟩ | refine sS (n9 (f:=z7) (x':=l) (by rfl) (by first | exact e8 | exact d8 | exact d9 (by rfl) (by rfl)) hq (by (try simp only [ln]);omega)) ?_ | refine sS (m6 (f:=z7) (l:=l) (x':=[(⟨IntKind.i64.wrap (s.f4+1),s.heap,(s.f62.length:Int)⟩:Sn)]) (by rfl) (by rfl) (by first | rfl | simp) (by first | exact e8 | exact d8 | exact d9 (by rfl) (by rfl)) (by rfl) (by (try simp only [ln]);omega)) ?_ | refine sS (n9 (f:=grO) (x':=ts) (by rfl) (by first | exact e8 | exact d8 | exact d9 (by rfl) (by rfl)) h62 (by (try simp only [ln]);omega)) ?_ | refine sS (m6 (f:=grO) (l:=ts) (x':=[s]) (by rfl) (by rfl) (by first | rfl | simp) (by first | exact e8 | exact d8 | exact d9 (by rfl) (by rfl)) (by rfl) (by (try simp only [ln]);omega)) ?_ | fail)
 all_goals (conv=>whnf)
 all_goals ((repeat' (first | (with_reducible exact PV.le.refl _) | exact PV.le.emp _ | exact H8.nil | (with_reducible refine v3 ?_) | (with_reducible refine o6 ?_) | (refine H8.cons ?_ ?_) | (with_reducible refine k7 ?_) | (with_reducible refine w8 ?_) | (with_reducible refine z6 ?_) | (with_reducible refine x6 ?_) | (with_reducible refine r9 ?_) | (refine z9 ?_))) <;>(first | rfl | exact PV.le.refl _ | (rw [a1R (by simp)];simp [svS,z7,hq];done) | (rw [a1R (by simp)];simp [svS,h62];done) | (simp [grO,svS,svO,z7,hq,h62];done) | (refine le_of_eq ?_;simp [grO,svS,svO,z7,hq,h62];done)))
end Go.Ab.Td
namespace Go.Ab.Td
set_option maxRecDepth 100000
set_option maxRecDepth 100000
open Go Go.Ab
variable {P:Program}
set_option linter.unusedSimpArgs false
attribute [local irreducible] f0
set_option maxHeartbeats 8000000 in
theorem b6f (C:Laid P) (s:F2) (h:s.ops=[]):j7 P G A0 [aS s,.str [114,101,115,116,111,114,101]] [] (.x8 [aS s,pI 20]):=by
 refine i5 C (G8 C) rfl ?_
 have hl:s.ops.length=0:=by rw [h];rfl
 repeat' ((conv=>whnf);first | (with_reducible refine sC (by kernel_rfl) ?_) | ((first | (with_reducible first | refine sB ?_ | refine o8 ?_ | refine o7 ?_) | refine sP (by rfl) ?_);first | refine Or.inl ⟨by first | assumption | (simp only [nm,List.length_map,hl];first | done | assumption | omega),?_⟩ | refine Or.inr (Or.inl ⟨by first | assumption | (simp only [nm,List.length_map,hl];first | done | assumption | omega),?_⟩) | (refine Or.inr (Or.inr ⟨fun hsp=>?_,fun hsp=>?_⟩) <;>(try simp only [nm,List.length_map,hl] at hsp) <;>try subst hsp)) | fail)
 all_goals (conv=>whnf)
 all_goals (first | exact PV.le.refl _ | (exfalso;omega))
set_option maxHeartbeats 8000000 in
theorem b6N (C:Laid P) (s:F2) (lo:List Ob) (o:Ob) (hop:s.ops=lo++[o]) (ho:lo.length≤1000) (hk:o.kind≠12):j7 P G A0 [aS s,.str [114,101,115,116,111,114,101]] [] (.x8 [aS s,pI 22]):=by
 refine i5 C (G8 C) rfl ?_
 have hl:s.ops.length=lo.length+1:=by rw [hop];simp
 have hw:IntKind.i64.wrap (((lo.length+1:Nat):Int) - 1)=(lo.length:Int):=by rw [wrap_small (by omega) (by omega)];omega
 have hw2:IntKind.i64.wrap ((s.ops.length:Int) - 1)=(lo.length:Int):=by rw [hl];exact hw
 have hrO:(List.map i6 s.ops)[(IntKind.i64.wrap ((s.ops.length:Int) - 1)).toNat]?=some (i6 o):=by rw [hw2,hop];simp
 have h0:0≤IntKind.i64.wrap ((s.ops.length:Int) - 1):=by omega
 repeat' ((conv=>whnf);first | (with_reducible refine sC (by kernel_rfl) ?_) | ((first | (with_reducible first | refine sB ?_ | refine o8 ?_ | refine o7 ?_) | refine sP (by rfl) ?_);first | refine Or.inl ⟨by first | assumption | (simp only [nm,List.length_map,hl];first | done | assumption | omega),?_⟩ | refine Or.inr (Or.inl ⟨by first | assumption | (simp only [nm,List.length_map,hl];first | done | assumption | omega),?_⟩) | (refine Or.inr (Or.inr ⟨fun hsp=>?_,fun hsp=>?_⟩) <;>(try simp only [nm,List.length_map,hl] at hsp) <;>try subst hsp)) | refine sS (e7 (j:=IntKind.i64.wrap ((s.ops.length:Int) - 1)) (by rfl) (by first | rfl | (simp only [List.length_map];rfl)) h0 hrO) ?_ | fail)
 all_goals (conv=>whnf)
 all_goals (first | exact PV.le.refl _ | (exfalso;omega))
set_option maxHeartbeats 8000000 in
theorem c0s (C:Laid P) (s:F2) (lo:List Ob) (o:Ob) (hop:s.ops=lo++[o]) (ho:lo.length≤1000) (l:List Sn) (hq:s.f3=l.map z7) (hl1:l.length≤1000) (hk:o.kind=12) (hp:plF o.n 0 l<0):j7 P G A0 [aS s,.str [114,101,115,116,111,114,101]] [] (.x8 [aS s,pI 34]):=by
 refine i5 C (G8 C) rfl ?_
 have hl:s.ops.length=lo.length+1:=by rw [hop];simp
 have hw:IntKind.i64.wrap (((lo.length+1:Nat):Int) - 1)=(lo.length:Int):=by rw [wrap_small (by omega) (by omega)];omega
 have hw2:IntKind.i64.wrap ((s.ops.length:Int) - 1)=(lo.length:Int):=by rw [hl];exact hw
 have hrO:(List.map i6 s.ops)[(IntKind.i64.wrap ((s.ops.length:Int) - 1)).toNat]?=some (i6 o):=by rw [hw2,hop];simp
 have h0:0≤IntKind.i64.wrap ((s.ops.length:Int) - 1):=by omega
 have kP:=a0A C s l o.n hq (by omega)
 repeat' ((conv=>whnf);first | (with_reducible refine sC (by kernel_rfl) ?_) | ((first | (with_reducible first | refine sB ?_ | refine o8 ?_ | refine o7 ?_) | refine sP (by rfl) ?_);first | refine Or.inl ⟨by first | assumption | (simp only [nm,List.length_map,hl,hk];first | done | assumption | omega),?_⟩ | refine Or.inr (Or.inl ⟨by first | assumption | (simp only [nm,List.length_map,hl,hk];first | done | assumption | omega),?_⟩) | (refine Or.inr (Or.inr ⟨fun hsp=>?_,fun hsp=>?_⟩) <;>(try simp only [nm,List.length_map,hl,hk] at hsp) <;>try subst hsp)) | refine ⟨_,_,kP,?_⟩ | refine sS (e7 (j:=IntKind.i64.wrap ((s.ops.length:Int) - 1)) (by rfl) (by first | rfl | (simp only [List.length_map];rfl)) h0 hrO) ?_ | fail)
 all_goals (conv=>whnf)
 all_goals (first | exact PV.le.refl _ | (exfalso;omega))
end Go.Ab.Td
namespace Go.Ab.Td
set_option maxRecDepth 100000
set_option maxRecDepth 100000
open Go Go.Ab
variable {P:Program}
set_option linter.unusedSimpArgs false
attribute [local irreducible] f0
set_option maxHeartbeats 8000000 in
theorem b4r (C:Laid P) (s:F2) (lo:List Ob) (o:Ob) (hop:s.ops=lo++[o]) (ho:lo.length≤1000) (l:List Sn) (hq:s.f3=l.map z7) (hl1:l.length≤1000) (n:Int) (hn:o=svO n) (hd:s.e9.length≤1000) (i:Nat) (xn:Int) (xh:List Cl) (j:Nat) (hp:plF n 0 l=(i:Int)) (hx:l[i]?=some ⟨xn,xh,(j:Int)⟩) (hnw:∃ o ∈ lo,o4 (xh.length:Int) o):j7 P G A0 [aS s,.str [114,101,115,116,111,114,101]] [] (.x8 [aS s,pI 34]):=by
 refine i5 C (G8 C) rfl ?_
 have hl:s.ops.length=lo.length+1:=by rw [hop];simp
 have hw:IntKind.i64.wrap (((lo.length+1:Nat):Int) - 1)=(lo.length:Int):=by rw [wrap_small (by omega) (by omega)];omega
 have hw2:IntKind.i64.wrap ((s.ops.length:Int) - 1)=(lo.length:Int):=by rw [hl];exact hw
 have hrO:(List.map i6 s.ops)[(IntKind.i64.wrap ((s.ops.length:Int) - 1)).toNat]?=some (i6 o):=by rw [hw2,hop];simp
 have h0:0≤IntKind.i64.wrap ((s.ops.length:Int) - 1):=by omega
 have hmv:IntKind.i64.wrap (((List.map i6 s.ops).length:Int) - 1)=(lo.length:Int):=by rw [List.length_map];exact hw2
 subst hn
 have kP:=a0A C s l n hq (by omega)
 rw [hp] at kP
 have hl3:s.f3.length=l.length:=by rw [hq,List.length_map]
 have hil:=(List.getElem?_eq_some_iff.1 hx).1
 have hrow:s.f3[(i:Int).toNat]?=some (z7 ⟨xn,xh,(j:Int)⟩):=by rw [hq];exact y2 (f:=z7) hx
 have hsl:(s.ops.take (lo.length:Int).toNat).drop (0:Int).toNat=lo:=by rw [hop];simp
 have k1:=M7 C lo (((List.map j9 xh).length:Nat):Int) (by omega)
 have k2:=M7 C s.e9 (((List.map j9 xh).length:Nat):Int) (by omega)
 have hsl2:List.map i6 ((s.ops.take (IntKind.i64.wrap (((List.map i6 s.ops).length:Int) - 1)).toNat).drop (0:Int).toNat)=List.map i6 lo:=by rw [hmv,hsl]
 rw [List.length_map,show tt (∃ o ∈ lo,o4 (xh.length:Int) o)=true from S7.mpr hnw,← List.length_map (f:=j9) (as:=xh)] at k1
 repeat' ((conv=>whnf);first | (with_reducible refine sC (by kernel_rfl) ?_) | ((first | (with_reducible first | refine sB ?_ | refine o8 ?_ | refine o7 ?_) | refine sP (by rfl) ?_);first | refine Or.inl ⟨by first | assumption | (simp only [nm,List.length_map,hl];first | done | assumption | omega),?_⟩ | refine Or.inr (Or.inl ⟨by first | assumption | (simp only [nm,List.length_map,hl];first | done | assumption | omega),?_⟩) | (refine Or.inr (Or.inr ⟨fun hsp=>?_,fun hsp=>?_⟩) <;>(try simp only [nm,List.length_map,hl] at hsp) <;>try subst hsp)) | refine ⟨_,_,kP,?_⟩ | refine ⟨_,_,(by first | exact k1 | (rw [hsl2];exact k1)),?_⟩ | refine ⟨_,_,k2,?_⟩ | refine sS (e7 (j:=IntKind.i64.wrap ((s.ops.length:Int) - 1)) (by rfl) (by first | rfl | (simp only [List.length_map];rfl)) h0 hrO) ?_ | refine sS (e7 (by rfl) (by rfl) (by omega) hrow) ?_ | refine sS (Z0 (f:=i6) (l:=s.ops) (a:=0) (h:=IntKind.i64.wrap (((List.map i6 s.ops).length:Int) - 1)) (by rfl) (by rfl) (by rfl) (by omega) (by omega) (by omega)) ?_ | fail)
 all_goals (conv=>whnf)
 all_goals (first | exact PV.le.refl _ | (exfalso;omega))
set_option maxHeartbeats 8000000 in
theorem b3T (C:Laid P) (s:F2) (lo:List Ob) (o:Ob) (hop:s.ops=lo++[o]) (ho:lo.length≤1000) (l:List Sn) (hq:s.f3=l.map z7) (hl1:l.length≤1000) (n:Int) (hn:o=svO n) (hd:s.e9.length≤1000) (i:Nat) (xn:Int) (xh:List Cl) (j:Nat) (hp:plF n 0 l=(i:Int)) (hx:l[i]?=some ⟨xn,xh,(j:Int)⟩) (hnw:¬ ∃ o ∈ lo,o4 (xh.length:Int) o) (hnd:∃ o ∈ s.e9,o4 (xh.length:Int) o):j7 P G A0 [aS s,.str [114,101,115,116,111,114,101]] [] (.x8 [aS s,pI 34]):=by
 refine i5 C (G8 C) rfl ?_
 have hl:s.ops.length=lo.length+1:=by rw [hop];simp
 have hw:IntKind.i64.wrap (((lo.length+1:Nat):Int) - 1)=(lo.length:Int):=by rw [wrap_small (by omega) (by omega)];omega
 have hw2:IntKind.i64.wrap ((s.ops.length:Int) - 1)=(lo.length:Int):=by rw [hl];exact hw
 have hrO:(List.map i6 s.ops)[(IntKind.i64.wrap ((s.ops.length:Int) - 1)).toNat]?=some (i6 o):=by rw [hw2,hop];simp
 have h0:0≤IntKind.i64.wrap ((s.ops.length:Int) - 1):=by omega
 have hmv:IntKind.i64.wrap (((List.map i6 s.ops).length:Int) - 1)=(lo.length:Int):=by rw [List.length_map];exact hw2
 subst hn
 have kP:=a0A C s l n hq (by omega)
 rw [hp] at kP
 have hl3:s.f3.length=l.length:=by rw [hq,List.length_map]
 have hil:=(List.getElem?_eq_some_iff.1 hx).1
 have hrow:s.f3[(i:Int).toNat]?=some (z7 ⟨xn,xh,(j:Int)⟩):=by rw [hq];exact y2 (f:=z7) hx
 have hsl:(s.ops.take (lo.length:Int).toNat).drop (0:Int).toNat=lo:=by rw [hop];simp
 have k1:=M7 C lo (((List.map j9 xh).length:Nat):Int) (by omega)
 have k2:=M7 C s.e9 (((List.map j9 xh).length:Nat):Int) (by omega)
 have hsl2:List.map i6 ((s.ops.take (IntKind.i64.wrap (((List.map i6 s.ops).length:Int) - 1)).toNat).drop (0:Int).toNat)=List.map i6 lo:=by rw [hmv,hsl]
 rw [List.length_map,show tt (∃ o ∈ lo,o4 (xh.length:Int) o)=false from G6.mpr hnw,← List.length_map (f:=j9) (as:=xh)] at k1
 rw [List.length_map,show tt (∃ o ∈ s.e9,o4 (xh.length:Int) o)=true from S7.mpr hnd,← List.length_map (f:=j9) (as:=xh)] at k2
 repeat' ((conv=>whnf);first | (with_reducible refine sC (by kernel_rfl) ?_) | ((first | (with_reducible first | refine sB ?_ | refine o8 ?_ | refine o7 ?_) | refine sP (by rfl) ?_);first | refine Or.inl ⟨by first | assumption | (simp only [nm,List.length_map,hl];first | done | assumption | omega),?_⟩ | refine Or.inr (Or.inl ⟨by first | assumption | (simp only [nm,List.length_map,hl];first | done | assumption | omega),?_⟩) | (refine Or.inr (Or.inr ⟨fun hsp=>?_,fun hsp=>?_⟩) <;>(try simp only [nm,List.length_map,hl] at hsp) <;>try subst hsp)) | refine ⟨_,_,kP,?_⟩ | refine ⟨_,_,(by first | exact k1 | (rw [hsl2];exact k1)),?_⟩ | refine ⟨_,_,k2,?_⟩ | refine sS (e7 (j:=IntKind.i64.wrap ((s.ops.length:Int) - 1)) (by rfl) (by first | rfl | (simp only [List.length_map];rfl)) h0 hrO) ?_ | refine sS (e7 (by rfl) (by rfl) (by omega) hrow) ?_ | refine sS (Z0 (f:=i6) (l:=s.ops) (a:=0) (h:=IntKind.i64.wrap (((List.map i6 s.ops).length:Int) - 1)) (by rfl) (by rfl) (by rfl) (by omega) (by omega) (by omega)) ?_ | fail)
 all_goals (conv=>whnf)
 all_goals (first | exact PV.le.refl _ | (exfalso;omega))
end Go.Ab.Td
namespace Go.Ab.Td
set_option maxRecDepth 100000
set_option maxRecDepth 100000
open Go Go.Ab
variable {P:Program}
set_option linter.unusedSimpArgs false
attribute [local irreducible] f0
set_option maxHeartbeats 8000000 in
theorem b8J (C:Laid P) (s:F2) (lo:List Ob) (o:Ob) (hop:s.ops=lo++[o]) (ho:lo.length≤1000) (hlo:lo.length≤99) (l:List Sn) (hq:s.f3=l.map z7) (hl1:l.length≤1000) (n:Int) (hn:o=svO n) (hd:s.e9.length≤1000) (i:Nat) (xn:Int) (xh:List Cl) (j:Nat) (hp:plF n 0 l=(i:Int)) (hx:l[i]?=some ⟨xn,xh,(j:Int)⟩) (t:F2) (ht:s.f62[j]?=some (grO t)) (hnw:¬ ∃ o ∈ lo,o4 (xh.length:Int) o) (hnd:¬ ∃ o ∈ s.e9,o4 (xh.length:Int) o):j7 P G A0 [aS s,.str [114,101,115,116,111,114,101]] [] (.x8 [aS (rsS s lo xh t i j),pI 0]):=by
 refine i5 C (G8 C) rfl ?_
 have hl:s.ops.length=lo.length+1:=by rw [hop];simp
 have hw:IntKind.i64.wrap (((lo.length+1:Nat):Int) - 1)=(lo.length:Int):=by rw [wrap_small (by omega) (by omega)];omega
 have hw2:IntKind.i64.wrap ((s.ops.length:Int) - 1)=(lo.length:Int):=by rw [hl];exact hw
 have hrO:(List.map i6 s.ops)[(IntKind.i64.wrap ((s.ops.length:Int) - 1)).toNat]?=some (i6 o):=by rw [hw2,hop];simp
 have h0:0≤IntKind.i64.wrap ((s.ops.length:Int) - 1):=by omega
 have hmv:IntKind.i64.wrap (((List.map i6 s.ops).length:Int) - 1)=(lo.length:Int):=by rw [List.length_map];exact hw2
 subst hn
 have kP:=a0A C s l n hq (by omega)
 rw [hp] at kP
 have hl3:s.f3.length=l.length:=by rw [hq,List.length_map]
 have hil:=(List.getElem?_eq_some_iff.1 hx).1
 have hrow:s.f3[(i:Int).toNat]?=some (z7 ⟨xn,xh,(j:Int)⟩):=by rw [hq];exact y2 (f:=z7) hx
 have hsl:(s.ops.take (lo.length:Int).toNat).drop (0:Int).toNat=lo:=by rw [hop];simp
 have k1:=M7 C lo (((List.map j9 xh).length:Nat):Int) (by omega)
 have k2:=M7 C s.e9 (((List.map j9 xh).length:Nat):Int) (by omega)
 have hsl2:List.map i6 ((s.ops.take (IntKind.i64.wrap (((List.map i6 s.ops).length:Int) - 1)).toNat).drop (0:Int).toNat)=List.map i6 lo:=by rw [hmv,hsl]
 rw [List.length_map,show tt (∃ o ∈ lo,o4 (xh.length:Int) o)=false from G6.mpr hnw,← List.length_map (f:=j9) (as:=xh)] at k1
 rw [List.length_map,show tt (∃ o ∈ s.e9,o4 (xh.length:Int) o)=false from G6.mpr hnd,← List.length_map (f:=j9) (as:=xh)] at k2
 have kI:=F9 C s 1 [] (by decide) (by omega) (by simp;omega) (by omega) (by simp)
 rw [List.append_nil,show s.ops.take (s.ops.length - (1:Int).toNat)=lo by rw [hop];simp] at kI
 have kI2:=a9j kI (.cons (.refl _) (.cons (.refl _) (.cons (.emp 7) .nil)))
 have hjl:=(List.getElem?_eq_some_iff.1 ht).1
 have hrow2:s.f62[(j:Int).toNat]?=some (grO t):=by simpa using ht
 repeat' ((conv=>whnf);first | (with_reducible refine sC (by kernel_rfl) ?_) | ((first | (with_reducible first | refine sB ?_ | refine o8 ?_ | refine o7 ?_) | refine sP (by rfl) ?_);first | refine Or.inl ⟨by first | assumption | (simp only [nm,List.length_map,hl];first | done | assumption | omega),?_⟩ | refine Or.inr (Or.inl ⟨by first | assumption | (simp only [nm,List.length_map,hl];first | done | assumption | omega),?_⟩) | (refine Or.inr (Or.inr ⟨fun hsp=>?_,fun hsp=>?_⟩) <;>(try simp only [nm,List.length_map,hl] at hsp) <;>try subst hsp)) | refine ⟨_,_,kP,?_⟩ | refine ⟨_,_,(by first | exact k1 | (rw [hsl2];exact k1)),?_⟩ | refine ⟨_,_,k2,?_⟩ | refine ⟨_,_,kI2,?_⟩ | refine sS (e7 (j:=IntKind.i64.wrap ((s.ops.length:Int) - 1)) (by rfl) (by first | rfl | (simp only [List.length_map];rfl)) h0 hrO) ?_ | refine sS (e7 (by rfl) (by rfl) (by omega) hrow) ?_ | refine sS (e7 (by rfl) (by rfl) (by omega) hrow2) ?_ | refine sS (b2X (rows:=s.f62) (l:=0) (h:=(j:Int)) (by rfl) (by rfl) (by rfl) (by omega) (by omega) (by omega)) ?_ | refine sS (b2X (rows:=s.f3) (l:=0) (h:=(i:Int)) (by rfl) (by rfl) (by rfl) (by omega) (by omega) (by omega)) ?_ | refine sS (Z0 (f:=i6) (l:=s.ops) (a:=0) (h:=IntKind.i64.wrap (((List.map i6 s.ops).length:Int) - 1)) (by rfl) (by rfl) (by rfl) (by omega) (by omega) (by omega)) ?_ | fail)
 all_goals (conv=>whnf)
 all_goals ((repeat' (first | (with_reducible exact PV.le.refl _) | exact PV.le.emp _ | exact H8.nil | (with_reducible refine v3 ?_) | (with_reducible refine o6 ?_) | (refine H8.cons ?_ ?_) | (with_reducible refine k7 ?_) | (with_reducible refine w8 ?_) | (with_reducible refine z6 ?_) | (with_reducible refine x6 ?_) | (with_reducible refine r9 ?_) | (refine z9 ?_))) <;>(first | rfl | exact PV.le.refl _ | (simp [rsS];done)))
end Go.Ab.Td

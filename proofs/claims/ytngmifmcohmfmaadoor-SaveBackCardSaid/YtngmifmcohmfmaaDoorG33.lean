/- A part of the proof: the texts TdUc, TdUd. Under: nothing. -/
import Derived.Test.YtngmifmcohmfmaaDoorG32
set_option linter.unusedVariables false
namespace Go.Ab.Td
set_option maxRecDepth 100000
set_option maxRecDepth 100000
open Go Go.Ab
variable {P:Program}
set_option linter.unusedSimpArgs false
attribute [local irreducible] e9
set_option maxHeartbeats 8000000 in
theorem b6K (C:Laid P) (s:v9) (h:s.ops=[]):j4 P G B1 [aS s,.str [114,101,115,116,111,114,101]] [] (.x6 [aS s,pI 20]):=by
 refine i5 C (H5 C) rfl ?_
 have hl:s.ops.length=0:=by rw [h];rfl
 repeat' ((conv=>whnf);first | (with_reducible refine sC (by kernel_rfl) ?_) | ((first | (with_reducible first | refine sB ?_ | refine o5 ?_ | refine o6 ?_) | refine sP (by rfl) ?_);first | refine Or.inl ⟨by first | assumption | (simp only [nm,List.length_map,hl];first | done | assumption | omega),?_⟩ | refine Or.inr (Or.inl ⟨by first | assumption | (simp only [nm,List.length_map,hl];first | done | assumption | omega),?_⟩) | (refine Or.inr (Or.inr ⟨fun hsp=>?_,fun hsp=>?_⟩) <;>(try simp only [nm,List.length_map,hl] at hsp) <;>try subst hsp)) | fail)
 all_goals (conv=>whnf)
 all_goals (first | exact PV.le.refl _ | (exfalso;omega))
set_option maxHeartbeats 8000000 in
theorem b7Z (C:Laid P) (s:v9) (lo:List Ob) (o:Ob) (hop:s.ops=lo++[o]) (ho:lo.length≤1000) (hk:o.kind≠12):j4 P G B1 [aS s,.str [114,101,115,116,111,114,101]] [] (.x6 [aS s,pI 22]):=by
 refine i5 C (H5 C) rfl ?_
 have hl:s.ops.length=lo.length+1:=by rw [hop];simp
 have hw:IntKind.i64.wrap (((lo.length+1:Nat):Int) - 1)=(lo.length:Int):=by rw [wrap_small (by omega) (by omega)];omega
 have hw2:IntKind.i64.wrap ((s.ops.length:Int) - 1)=(lo.length:Int):=by rw [hl];exact hw
 have hrO:(List.map i4 s.ops)[(IntKind.i64.wrap ((s.ops.length:Int) - 1)).toNat]?=some (i4 o):=by rw [hw2,hop];simp
 have h0:0≤IntKind.i64.wrap ((s.ops.length:Int) - 1):=by omega
 repeat' ((conv=>whnf);first | (with_reducible refine sC (by kernel_rfl) ?_) | ((first | (with_reducible first | refine sB ?_ | refine o5 ?_ | refine o6 ?_) | refine sP (by rfl) ?_);first | refine Or.inl ⟨by first | assumption | (simp only [nm,List.length_map,hl];first | done | assumption | omega),?_⟩ | refine Or.inr (Or.inl ⟨by first | assumption | (simp only [nm,List.length_map,hl];first | done | assumption | omega),?_⟩) | (refine Or.inr (Or.inr ⟨fun hsp=>?_,fun hsp=>?_⟩) <;>(try simp only [nm,List.length_map,hl] at hsp) <;>try subst hsp)) | refine sS (e7 (j:=IntKind.i64.wrap ((s.ops.length:Int) - 1)) (by rfl) (by first | rfl | (simp only [List.length_map];rfl)) h0 hrO) ?_ | fail)
 all_goals (conv=>whnf)
 all_goals (first | exact PV.le.refl _ | (exfalso;omega))
set_option maxHeartbeats 8000000 in
theorem c1I (C:Laid P) (s:v9) (lo:List Ob) (o:Ob) (hop:s.ops=lo++[o]) (ho:lo.length≤1000) (l:List Sn) (hq:s.f3=l.map w7) (hl1:l.length≤1000) (hk:o.kind=12) (hp:plF o.n 0 l<0):j4 P G B1 [aS s,.str [114,101,115,116,111,114,101]] [] (.x6 [aS s,pI 34]):=by
 refine i5 C (H5 C) rfl ?_
 have hl:s.ops.length=lo.length+1:=by rw [hop];simp
 have hw:IntKind.i64.wrap (((lo.length+1:Nat):Int) - 1)=(lo.length:Int):=by rw [wrap_small (by omega) (by omega)];omega
 have hw2:IntKind.i64.wrap ((s.ops.length:Int) - 1)=(lo.length:Int):=by rw [hl];exact hw
 have hrO:(List.map i4 s.ops)[(IntKind.i64.wrap ((s.ops.length:Int) - 1)).toNat]?=some (i4 o):=by rw [hw2,hop];simp
 have h0:0≤IntKind.i64.wrap ((s.ops.length:Int) - 1):=by omega
 have kP:=a1f C s l o.n hq (by omega)
 repeat' ((conv=>whnf);first | (with_reducible refine sC (by kernel_rfl) ?_) | ((first | (with_reducible first | refine sB ?_ | refine o5 ?_ | refine o6 ?_) | refine sP (by rfl) ?_);first | refine Or.inl ⟨by first | assumption | (simp only [nm,List.length_map,hl,hk];first | done | assumption | omega),?_⟩ | refine Or.inr (Or.inl ⟨by first | assumption | (simp only [nm,List.length_map,hl,hk];first | done | assumption | omega),?_⟩) | (refine Or.inr (Or.inr ⟨fun hsp=>?_,fun hsp=>?_⟩) <;>(try simp only [nm,List.length_map,hl,hk] at hsp) <;>try subst hsp)) | refine ⟨_,_,kP,?_⟩ | refine sS (e7 (j:=IntKind.i64.wrap ((s.ops.length:Int) - 1)) (by rfl) (by first | rfl | (simp only [List.length_map];rfl)) h0 hrO) ?_ | fail)
 all_goals (conv=>whnf)
 all_goals (first | exact PV.le.refl _ | (exfalso;omega))
end Go.Ab.Td
namespace Go.Ab.Td
set_option maxRecDepth 100000
set_option maxRecDepth 100000
open Go Go.Ab
variable {P:Program}
set_option linter.unusedSimpArgs false
attribute [local irreducible] e9
set_option maxHeartbeats 8000000 in
theorem b4Q (C:Laid P) (s:v9) (lo:List Ob) (o:Ob) (hop:s.ops=lo++[o]) (ho:lo.length≤1000) (l:List Sn) (hq:s.f3=l.map w7) (hl1:l.length≤1000) (n:Int) (hn:o=svO n) (hd:s.e6.length≤1000) (i:Nat) (xn:Int) (xh:List Cl) (j:Nat) (hp:plF n 0 l=(i:Int)) (hx:l[i]?=some ⟨xn,xh,(j:Int)⟩) (hnw:∃ o ∈ lo,n7 (xh.length:Int) o):j4 P G B1 [aS s,.str [114,101,115,116,111,114,101]] [] (.x6 [aS s,pI 34]):=by
 refine i5 C (H5 C) rfl ?_
 have hl:s.ops.length=lo.length+1:=by rw [hop];simp
 have hw:IntKind.i64.wrap (((lo.length+1:Nat):Int) - 1)=(lo.length:Int):=by rw [wrap_small (by omega) (by omega)];omega
 have hw2:IntKind.i64.wrap ((s.ops.length:Int) - 1)=(lo.length:Int):=by rw [hl];exact hw
 have hrO:(List.map i4 s.ops)[(IntKind.i64.wrap ((s.ops.length:Int) - 1)).toNat]?=some (i4 o):=by rw [hw2,hop];simp
 have h0:0≤IntKind.i64.wrap ((s.ops.length:Int) - 1):=by omega
 have hmv:IntKind.i64.wrap (((List.map i4 s.ops).length:Int) - 1)=(lo.length:Int):=by rw [List.length_map];exact hw2
 subst hn
 have kP:=a1f C s l n hq (by omega)
 rw [hp] at kP
 have hl3:s.f3.length=l.length:=by rw [hq,List.length_map]
 have hil:=(List.getElem?_eq_some_iff.1 hx).1
 have hrow:s.f3[(i:Int).toNat]?=some (w7 ⟨xn,xh,(j:Int)⟩):=by rw [hq];exact y9 (f:=w7) hx
 have hsl:(s.ops.take (lo.length:Int).toNat).drop (0:Int).toNat=lo:=by rw [hop];simp
 have k1:=O3 C lo (((List.map j8 xh).length:Nat):Int) (by omega)
 have k2:=O3 C s.e6 (((List.map j8 xh).length:Nat):Int) (by omega)
 have hsl2:List.map i4 ((s.ops.take (IntKind.i64.wrap (((List.map i4 s.ops).length:Int) - 1)).toNat).drop (0:Int).toNat)=List.map i4 lo:=by rw [hmv,hsl]
 rw [List.length_map,show tt (∃ o ∈ lo,n7 (xh.length:Int) o)=true from Q8.mpr hnw,← List.length_map (f:=j8) (as:=xh)] at k1
 repeat' ((conv=>whnf);first | (with_reducible refine sC (by kernel_rfl) ?_) | ((first | (with_reducible first | refine sB ?_ | refine o5 ?_ | refine o6 ?_) | refine sP (by rfl) ?_);first | refine Or.inl ⟨by first | assumption | (simp only [nm,List.length_map,hl];first | done | assumption | omega),?_⟩ | refine Or.inr (Or.inl ⟨by first | assumption | (simp only [nm,List.length_map,hl];first | done | assumption | omega),?_⟩) | (refine Or.inr (Or.inr ⟨fun hsp=>?_,fun hsp=>?_⟩) <;>(try simp only [nm,List.length_map,hl] at hsp) <;>try subst hsp)) | refine ⟨_,_,kP,?_⟩ | refine ⟨_,_,(by first | exact k1 | (rw [hsl2];exact k1)),?_⟩ | refine ⟨_,_,k2,?_⟩ | refine sS (e7 (j:=IntKind.i64.wrap ((s.ops.length:Int) - 1)) (by rfl) (by first | rfl | (simp only [List.length_map];rfl)) h0 hrO) ?_ | refine sS (e7 (by rfl) (by rfl) (by omega) hrow) ?_ | refine sS (U1 (f:=i4) (l:=s.ops) (a:=0) (h:=IntKind.i64.wrap (((List.map i4 s.ops).length:Int) - 1)) (by rfl) (by rfl) (by rfl) (by omega) (by omega) (by omega)) ?_ | fail)
 all_goals (conv=>whnf)
 all_goals (first | exact PV.le.refl _ | (exfalso;omega))
set_option maxHeartbeats 8000000 in
theorem b4R (C:Laid P) (s:v9) (lo:List Ob) (o:Ob) (hop:s.ops=lo++[o]) (ho:lo.length≤1000) (l:List Sn) (hq:s.f3=l.map w7) (hl1:l.length≤1000) (n:Int) (hn:o=svO n) (hd:s.e6.length≤1000) (i:Nat) (xn:Int) (xh:List Cl) (j:Nat) (hp:plF n 0 l=(i:Int)) (hx:l[i]?=some ⟨xn,xh,(j:Int)⟩) (hnw:¬ ∃ o ∈ lo,n7 (xh.length:Int) o) (hnd:∃ o ∈ s.e6,n7 (xh.length:Int) o):j4 P G B1 [aS s,.str [114,101,115,116,111,114,101]] [] (.x6 [aS s,pI 34]):=by
 refine i5 C (H5 C) rfl ?_
 have hl:s.ops.length=lo.length+1:=by rw [hop];simp
 have hw:IntKind.i64.wrap (((lo.length+1:Nat):Int) - 1)=(lo.length:Int):=by rw [wrap_small (by omega) (by omega)];omega
 have hw2:IntKind.i64.wrap ((s.ops.length:Int) - 1)=(lo.length:Int):=by rw [hl];exact hw
 have hrO:(List.map i4 s.ops)[(IntKind.i64.wrap ((s.ops.length:Int) - 1)).toNat]?=some (i4 o):=by rw [hw2,hop];simp
 have h0:0≤IntKind.i64.wrap ((s.ops.length:Int) - 1):=by omega
 have hmv:IntKind.i64.wrap (((List.map i4 s.ops).length:Int) - 1)=(lo.length:Int):=by rw [List.length_map];exact hw2
 subst hn
 have kP:=a1f C s l n hq (by omega)
 rw [hp] at kP
 have hl3:s.f3.length=l.length:=by rw [hq,List.length_map]
 have hil:=(List.getElem?_eq_some_iff.1 hx).1
 have hrow:s.f3[(i:Int).toNat]?=some (w7 ⟨xn,xh,(j:Int)⟩):=by rw [hq];exact y9 (f:=w7) hx
 have hsl:(s.ops.take (lo.length:Int).toNat).drop (0:Int).toNat=lo:=by rw [hop];simp
 have k1:=O3 C lo (((List.map j8 xh).length:Nat):Int) (by omega)
 have k2:=O3 C s.e6 (((List.map j8 xh).length:Nat):Int) (by omega)
 have hsl2:List.map i4 ((s.ops.take (IntKind.i64.wrap (((List.map i4 s.ops).length:Int) - 1)).toNat).drop (0:Int).toNat)=List.map i4 lo:=by rw [hmv,hsl]
 rw [List.length_map,show tt (∃ o ∈ lo,n7 (xh.length:Int) o)=false from I2.mpr hnw,← List.length_map (f:=j8) (as:=xh)] at k1
 rw [List.length_map,show tt (∃ o ∈ s.e6,n7 (xh.length:Int) o)=true from Q8.mpr hnd,← List.length_map (f:=j8) (as:=xh)] at k2
 repeat' ((conv=>whnf);first | (with_reducible refine sC (by kernel_rfl) ?_) | ((first | (with_reducible first | refine sB ?_ | refine o5 ?_ | refine o6 ?_) | refine sP (by rfl) ?_);first | refine Or.inl ⟨by first | assumption | (simp only [nm,List.length_map,hl];first | done | assumption | omega),?_⟩ | refine Or.inr (Or.inl ⟨by first | assumption | (simp only [nm,List.length_map,hl];first | done | assumption | omega),?_⟩) | (refine Or.inr (Or.inr ⟨fun hsp=>?_,fun hsp=>?_⟩) <;>(try simp only [nm,List.length_map,hl] at hsp) <;>try subst hsp)) | refine ⟨_,_,kP,?_⟩ | refine ⟨_,_,(by first | exact k1 | (rw [hsl2];exact k1)),?_⟩ | refine ⟨_,_,k2,?_⟩ | refine sS (e7 (j:=IntKind.i64.wrap ((s.ops.length:Int) - 1)) (by rfl) (by first | rfl | (simp only [List.length_map];rfl)) h0 hrO) ?_ | refine sS (e7 (by rfl) (by rfl) (by omega) hrow) ?_ | refine sS (U1 (f:=i4) (l:=s.ops) (a:=0) (h:=IntKind.i64.wrap (((List.map i4 s.ops).length:Int) - 1)) (by rfl) (by rfl) (by rfl) (by omega) (by omega) (by omega)) ?_ | fail)
 all_goals (conv=>whnf)
 all_goals (first | exact PV.le.refl _ | (exfalso;omega))
end Go.Ab.Td

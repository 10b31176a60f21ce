/- A part of the proof: the texts TdXc, TdXc1, TdXc2, TdXc3. Under: nothing. -/
import Derived.Test.YtomfaadmmchdcaaDoorG29
set_option linter.unusedVariables false
namespace Go.Ab.Td
set_option maxRecDepth 100000
set_option maxRecDepth 100000
open Go Go.Ab
variable {P:Program}
set_option linter.unusedSimpArgs false
attribute [local irreducible] g8
theorem a1O {lo l:List Ob} {n:Int} (h:(l.length:Int)=n):List.take ((lo++l).length - n.toNat) (lo++l)=lo:=by
 have:(lo++l).length - n.toNat=lo.length:=by rw [List.length_append];omega
 rw [this,List.take_left'];rfl
end Go.Ab.Td
namespace Go.Ab.Td
set_option maxRecDepth 100000
set_option maxRecDepth 100000
open Go Go.Ab
variable {P:Program}
set_option linter.unusedSimpArgs false
attribute [local irreducible] g8
set_option maxHeartbeats 8000000 in
theorem b5n (C:Laid P) (s:C3) (lo:List Ob) (k o c:Ob) (hl:lo.length≤1000) (fk:fits s.heap k) (fc:fits s.heap c) (k0:k.kind≠0) (c0:c.kind=5∨c.kind=6) (e1:(i3 s.heap k).2=0) (e2:(i3 s.heap c).2=0) (hs:small s.heap) (h4:4<s.heap.length) (j:Int) (hj:(look (cellAt s.heap a0o) (i3 s.heap c).1).getD A2=dO j) (hr:T7 s.heap (i3 s.heap c).1) (j0:0≤j) (j1:j<s.heap.length) (h100:lo.length≤97) (hsu:¬ a0Z (i3 s.heap c).1.name o):l8 P G o5 [aS (stL s (lo++[k,o,c])),.str o3] [] (.p7 [aS (stL s (lo++[k,o,c])),pI 22]):=by
 refine j3 C (w7 C) rfl ?_
 have kN:=n4 C
 have kIn:=u3 C k7 o3 (by decide)
 rw [show tt (o3 ∈ k7)=true from v5.mpr (by simp [k7,o3])] at kIn
 have kK:=l4 C s.heap k fk
 have kC:=l4 C s.heap c fc
 rw [e1] at kK
 rw [e2] at kC
 have kD:=A3 C (stL s (lo++[k,o,c])) (i3 s.heap c).1 hs h4
 rw [show (stL s (lo++[k,o,c])).heap=s.heap from rfl,hj,show tt (T7 s.heap (i3 s.heap c).1)=true from v5.mpr hr] at kD
 have kF:=B4 C s.heap (dO j) (i3 s.heap k).1 j0 j1 hs
 have kS:=a3r C (i3 s.heap c).1.name o
 rw [show tt (a0Z (i3 s.heap c).1.name o)=false from a3x.mpr hsu] at kS
 repeat' ((conv=>whnf);first | (with_reducible refine sC (by kernel_rfl) ?_) | ((first | (with_reducible first | refine sB ?_ | refine x4 ?_ | refine x5 ?_) | refine sP (by rfl) ?_);first | refine Or.inl ⟨by first | assumption | (simp only [nm,i7,List.length_map,List.length_append,List.length_cons,List.length_nil,w31,w21];first | done | assumption | omega),?_⟩ | refine Or.inr (Or.inl ⟨by first | assumption | (simp only [nm,i7,List.length_map,List.length_append,List.length_cons,List.length_nil,w31,w21];first | done | assumption | omega),?_⟩) | (refine Or.inr (Or.inr ⟨fun hsp=>?_,fun hsp=>?_⟩) <;>(try simp only [nm,i7,List.length_map,List.length_append,List.length_cons,List.length_nil,w31,w21] at hsp) <;>try subst hsp)) | refine ⟨_,_,kN,?_⟩ | refine ⟨_,_,kIn,?_⟩ | refine ⟨_,_,kK,?_⟩ | refine ⟨_,_,kC,?_⟩ | refine ⟨_,_,kD,?_⟩ | refine ⟨_,_,kF,?_⟩ | refine ⟨_,_,kS,?_⟩ | refine sS (A9 (f:=i4) (l0:=lo) (l1:=[k,o,c]) (by rfl) (by rfl) (a8c (l:=[k,o,c]) (n:=3) hl rfl (by decide))) ?_ | refine sS (e7 (by rfl) (by first | exact b7 | exact b0 | exact b6 (by rfl) (by rfl)) (by rfl) (by (try simp only [ln]);omega)) ?_ | refine sS (e7 (f:=i4) (x':=[⟨_,_,_,_,_,_,_⟩]) (by rfl) (by first | exact b7 | exact b0 | exact b6 (by rfl) (by rfl)) (by rfl) (by (try simp only [ln]);omega)) ?_ | refine sS (e7 (f:=j6) (x':=[⟨_,_,_,_,_,_,_⟩]) (by rfl) (by first | exact b7 | exact b0 | exact b6 (by rfl) (by rfl)) (by rfl) (by (try simp only [ln]);omega)) ?_ | refine sS (d7 (by rfl) (by rfl) (by (try simp only [ln]);omega) (by first | exact b7 | exact b0 | exact b6 (by rfl) (by rfl)) (by rfl) (by (try simp only [ln]);omega)) ?_ | refine sS (d7 (f:=i4) (x':=[⟨_,_,_,_,_,_,_⟩]) (by rfl) (by rfl) (by (try simp only [ln]);omega) (by first | exact b7 | exact b0 | exact b6 (by rfl) (by rfl)) (by rfl) (by (try simp only [ln]);omega)) ?_ | refine sS (d7 (f:=j6) (x':=[⟨_,_,_,_,_,_,_⟩]) (by rfl) (by rfl) (by (try simp only [ln]);omega) (by first | exact b7 | exact b0 | exact b6 (by rfl) (by rfl)) (by rfl) (by (try simp only [ln]);omega)) ?_ | refine sS (d8 (by rfl) (by first | exact b7 | exact b0 | exact b6 (by rfl) (by rfl)) (by rfl) (by (try simp only [ln]);omega)) ?_ | refine sS (d8 (f:=i4) (x':=[⟨_,_,_,_,_,_,_⟩]) (by rfl) (by first | exact b7 | exact b0 | exact b6 (by rfl) (by rfl)) (by rfl) (by (try simp only [ln]);omega)) ?_ | refine sS (d8 (f:=j6) (x':=[⟨_,_,_,_,_,_,_⟩]) (by rfl) (by first | exact b7 | exact b0 | exact b6 (by rfl) (by rfl)) (by rfl) (by (try simp only [ln]);omega)) ?_ | refine sS (u9 (by rfl) (by rfl) (by rfl) (by rfl) (by (try simp only [ln]);omega) (by (try simp only [ln]);omega) (by first | rfl | ((try simp only [ln]);omega)) (by (try simp only [ln]);omega)) ?_ | refine sS (v3 (by rfl) (by rfl) (by rfl) (by (try simp only [ln]);omega) (by (try simp only [ln]);omega) (by (try simp only [ln]);omega)) ?_ | refine sS (w5 (by rfl) (by rfl) (by rfl) (by (try simp only [ln]);omega) (by (try simp only [ln]);omega) (by (try simp only [ln]);omega)) ?_ | refine sS (o6 (by rfl) (by rfl) (by rfl) (by (try simp only [ln]);omega) (by (try simp only [ln]);omega) (by (try simp only [ln]);omega)) ?_ | refine sS (e9 (by rfl) (by rfl) (by omega) (l6 (d:=cl0) (by omega) (by omega))) ?_ | refine sS (e9 (by rfl) (by rfl) (by omega) (l6 (d:=A2) (by omega) (by omega))) ?_ | refine sS (B9 (by rfl) (by rfl) (by omega)) ?_ | refine sS (B8 (by rfl) (by rfl) (by omega)) ?_ | fail)
 all_goals (conv=>whnf)
 all_goals (first | exact PV.le.refl _ | (exfalso;omega))
end Go.Ab.Td
namespace Go.Ab.Td
set_option maxRecDepth 100000
set_option maxRecDepth 100000
open Go Go.Ab
variable {P:Program}
set_option linter.unusedSimpArgs false
attribute [local irreducible] g8
set_option maxHeartbeats 8000000 in
theorem b6z (C:Laid P) (s:C3) (lo:List Ob) (k o c:Ob) (hl:lo.length≤1000) (fk:fits s.heap k) (fc:fits s.heap c) (k0:k.kind≠0) (c0:c.kind=5∨c.kind=6) (e1:(i3 s.heap k).2=0) (e2:(i3 s.heap c).2=0) (hs:small s.heap) (h4:4<s.heap.length) (j:Int) (hj:(look (cellAt s.heap a0o) (i3 s.heap c).1).getD A2=dO j) (hr:T7 s.heap (i3 s.heap c).1) (j0:0≤j) (j1:j<s.heap.length) (h100:lo.length≤97) (hsu:a0Z (i3 s.heap c).1.name o) (hp:X7 (cellAt s.heap (dO j)) (i3 s.heap k).1 o=none):l8 P G o5 [aS (stL s (lo++[k,o,c])),.str o3] [] (.p7 [aS (stL s (lo++[k,o,c])),pI 30]):=by
 refine j3 C (w7 C) rfl ?_
 have kN:=n4 C
 have kIn:=u3 C k7 o3 (by decide)
 rw [show tt (o3 ∈ k7)=true from v5.mpr (by simp [k7,o3])] at kIn
 have kK:=l4 C s.heap k fk
 have kC:=l4 C s.heap c fc
 rw [e1] at kK
 rw [e2] at kC
 have kD:=A3 C (stL s (lo++[k,o,c])) (i3 s.heap c).1 hs h4
 rw [show (stL s (lo++[k,o,c])).heap=s.heap from rfl,hj,show tt (T7 s.heap (i3 s.heap c).1)=true from v5.mpr hr] at kD
 have kF:=B4 C s.heap (dO j) (i3 s.heap k).1 j0 j1 hs
 have kS:=a3r C (i3 s.heap c).1.name o
 rw [show tt (a0Z (i3 s.heap c).1.name o)=true from v5.mpr hsu] at kS
 have kT:=a7f C s.heap (dO j) (i3 s.heap k).1 o j0 j1 hs hp
 repeat' ((conv=>whnf);first | (with_reducible refine sC (by kernel_rfl) ?_) | ((first | (with_reducible first | refine sB ?_ | refine x4 ?_ | refine x5 ?_) | refine sP (by rfl) ?_);first | refine Or.inl ⟨by first | assumption | (simp only [nm,i7,List.length_map,List.length_append,List.length_cons,List.length_nil,w31,w21];first | done | assumption | omega),?_⟩ | refine Or.inr (Or.inl ⟨by first | assumption | (simp only [nm,i7,List.length_map,List.length_append,List.length_cons,List.length_nil,w31,w21];first | done | assumption | omega),?_⟩) | (refine Or.inr (Or.inr ⟨fun hsp=>?_,fun hsp=>?_⟩) <;>(try simp only [nm,i7,List.length_map,List.length_append,List.length_cons,List.length_nil,w31,w21] at hsp) <;>try subst hsp)) | refine ⟨_,_,kN,?_⟩ | refine ⟨_,_,kIn,?_⟩ | refine ⟨_,_,kK,?_⟩ | refine ⟨_,_,kC,?_⟩ | refine ⟨_,_,kD,?_⟩ | refine ⟨_,_,kF,?_⟩ | refine ⟨_,_,kS,?_⟩ | refine ⟨_,_,kT,?_⟩ | refine sS (A9 (f:=i4) (l0:=lo) (l1:=[k,o,c]) (by rfl) (by rfl) (a8c (l:=[k,o,c]) (n:=3) hl rfl (by decide))) ?_ | refine sS (e7 (by rfl) (by first | exact b7 | exact b0 | exact b6 (by rfl) (by rfl)) (by rfl) (by (try simp only [ln]);omega)) ?_ | refine sS (e7 (f:=i4) (x':=[⟨_,_,_,_,_,_,_⟩]) (by rfl) (by first | exact b7 | exact b0 | exact b6 (by rfl) (by rfl)) (by rfl) (by (try simp only [ln]);omega)) ?_ | refine sS (e7 (f:=j6) (x':=[⟨_,_,_,_,_,_,_⟩]) (by rfl) (by first | exact b7 | exact b0 | exact b6 (by rfl) (by rfl)) (by rfl) (by (try simp only [ln]);omega)) ?_ | refine sS (d7 (by rfl) (by rfl) (by (try simp only [ln]);omega) (by first | exact b7 | exact b0 | exact b6 (by rfl) (by rfl)) (by rfl) (by (try simp only [ln]);omega)) ?_ | refine sS (d7 (f:=i4) (x':=[⟨_,_,_,_,_,_,_⟩]) (by rfl) (by rfl) (by (try simp only [ln]);omega) (by first | exact b7 | exact b0 | exact b6 (by rfl) (by rfl)) (by rfl) (by (try simp only [ln]);omega)) ?_ | refine sS (d7 (f:=j6) (x':=[⟨_,_,_,_,_,_,_⟩]) (by rfl) (by rfl) (by (try simp only [ln]);omega) (by first | exact b7 | exact b0 | exact b6 (by rfl) (by rfl)) (by rfl) (by (try simp only [ln]);omega)) ?_ | refine sS (d8 (by rfl) (by first | exact b7 | exact b0 | exact b6 (by rfl) (by rfl)) (by rfl) (by (try simp only [ln]);omega)) ?_ | refine sS (d8 (f:=i4) (x':=[⟨_,_,_,_,_,_,_⟩]) (by rfl) (by first | exact b7 | exact b0 | exact b6 (by rfl) (by rfl)) (by rfl) (by (try simp only [ln]);omega)) ?_ | refine sS (d8 (f:=j6) (x':=[⟨_,_,_,_,_,_,_⟩]) (by rfl) (by first | exact b7 | exact b0 | exact b6 (by rfl) (by rfl)) (by rfl) (by (try simp only [ln]);omega)) ?_ | refine sS (u9 (by rfl) (by rfl) (by rfl) (by rfl) (by (try simp only [ln]);omega) (by (try simp only [ln]);omega) (by first | rfl | ((try simp only [ln]);omega)) (by (try simp only [ln]);omega)) ?_ | refine sS (v3 (by rfl) (by rfl) (by rfl) (by (try simp only [ln]);omega) (by (try simp only [ln]);omega) (by (try simp only [ln]);omega)) ?_ | refine sS (w5 (by rfl) (by rfl) (by rfl) (by (try simp only [ln]);omega) (by (try simp only [ln]);omega) (by (try simp only [ln]);omega)) ?_ | refine sS (o6 (by rfl) (by rfl) (by rfl) (by (try simp only [ln]);omega) (by (try simp only [ln]);omega) (by (try simp only [ln]);omega)) ?_ | refine sS (e9 (by rfl) (by rfl) (by omega) (l6 (d:=cl0) (by omega) (by omega))) ?_ | refine sS (e9 (by rfl) (by rfl) (by omega) (l6 (d:=A2) (by omega) (by omega))) ?_ | refine sS (B9 (by rfl) (by rfl) (by omega)) ?_ | refine sS (B8 (by rfl) (by rfl) (by omega)) ?_ | fail)
 all_goals (conv=>whnf)
 all_goals (first | exact PV.le.refl _ | (exfalso;omega))
end Go.Ab.Td
namespace Go.Ab.Td
set_option maxRecDepth 100000
set_option maxRecDepth 100000
open Go Go.Ab
variable {P:Program}
set_option linter.unusedSimpArgs false
attribute [local irreducible] g8
set_option maxHeartbeats 8000000 in
theorem b3A (C:Laid P) (s:C3) (lo:List Ob) (k o c:Ob) (hl:lo.length≤1000) (fk:fits s.heap k) (fc:fits s.heap c) (k0:k.kind≠0) (c0:c.kind=5∨c.kind=6) (e1:(i3 s.heap k).2=0) (e2:(i3 s.heap c).2=0) (hs:small s.heap) (h4:4<s.heap.length) (j:Int) (hj:(look (cellAt s.heap a0o) (i3 s.heap c).1).getD A2=dO j) (hr:T7 s.heap (i3 s.heap c).1) (j0:0≤j) (j1:j<s.heap.length) (h100:lo.length≤97) (hsu:a0Z (i3 s.heap c).1.name o) (t:Cl) (hp:X7 (cellAt s.heap (dO j)) (i3 s.heap k).1 o=some t):l8 P G o5 [aS (stL s (lo++[k,o,c])),.str o3] [] (.p7 [aS {s with ops:=lo++[o],heap:=s.heap.set j.toNat t},pI 0]):=by
 refine j3 C (w7 C) rfl ?_
 have kN:=n4 C
 have kIn:=u3 C k7 o3 (by decide)
 rw [show tt (o3 ∈ k7)=true from v5.mpr (by simp [k7,o3])] at kIn
 have kK:=l4 C s.heap k fk
 have kC:=l4 C s.heap c fc
 rw [e1] at kK
 rw [e2] at kC
 have kD:=A3 C (stL s (lo++[k,o,c])) (i3 s.heap c).1 hs h4
 rw [show (stL s (lo++[k,o,c])).heap=s.heap from rfl,hj,show tt (T7 s.heap (i3 s.heap c).1)=true from v5.mpr hr] at kD
 have kF:=B4 C s.heap (dO j) (i3 s.heap k).1 j0 j1 hs
 have kS:=a3r C (i3 s.heap c).1.name o
 rw [show tt (a0Z (i3 s.heap c).1.name o)=true from v5.mpr hsu] at kS
 have kT:=b2F C s.heap (dO j) (i3 s.heap k).1 o t j0 j1 hs hp
 have kI:=F8 C (stL s (lo++[k,o,c])) 3 [o] (by decide) (by rw [i7];simp;omega) (by rw [i7];simp;omega) (by rw [i7];simp;omega) (by simp)
 rw [i7,a1O (n:=3) rfl] at kI
 obtain ⟨u,hu⟩:∃ u:C3,u={s with ops:=lo++[o]}:=⟨_,rfl⟩
 have kI:l8 P G y0 [aS (stL s (lo++[k,o,c])),pI 3,.sl 7 (List.map i4 [o])] [] (.p7 [aS u,pI 0]):=by rw [hu];exact kI
 have hres:aS {s with ops:=lo++[o],heap:=s.heap.set j.toNat t}=aS {u with heap:=s.heap.set j.toNat t}:=by rw [hu]
 rw [hres]
 clear hres hu
 repeat' ((conv=>whnf);first | (with_reducible refine sC (by kernel_rfl) ?_) | ((first | (with_reducible first | refine sB ?_ | refine x4 ?_ | refine x5 ?_) | refine sP (by rfl) ?_);first | refine Or.inl ⟨by first | assumption | (simp only [nm,i7,List.length_map,List.length_append,List.length_cons,List.length_nil,w31,w21];first | done | assumption | omega),?_⟩ | refine Or.inr (Or.inl ⟨by first | assumption | (simp only [nm,i7,List.length_map,List.length_append,List.length_cons,List.length_nil,w31,w21];first | done | assumption | omega),?_⟩) | (refine Or.inr (Or.inr ⟨fun hsp=>?_,fun hsp=>?_⟩) <;>(try simp only [nm,i7,List.length_map,List.length_append,List.length_cons,List.length_nil,w31,w21] at hsp) <;>try subst hsp)) | refine ⟨_,_,kN,?_⟩ | refine ⟨_,_,kIn,?_⟩ | refine ⟨_,_,kK,?_⟩ | refine ⟨_,_,kC,?_⟩ | refine ⟨_,_,kD,?_⟩ | refine ⟨_,_,kF,?_⟩ | refine ⟨_,_,kS,?_⟩ | refine ⟨_,_,kT,?_⟩ | refine ⟨_,_,kI,?_⟩ | refine sS (A9 (f:=i4) (l0:=lo) (l1:=[k,o,c]) (by rfl) (by rfl) (a8c (l:=[k,o,c]) (n:=3) hl rfl (by decide))) ?_ | refine sS (e7 (by rfl) (by first | exact b7 | exact b0 | exact b6 (by rfl) (by rfl)) (by rfl) (by (try simp only [ln]);omega)) ?_ | refine sS (e7 (f:=i4) (x':=[⟨_,_,_,_,_,_,_⟩]) (by rfl) (by first | exact b7 | exact b0 | exact b6 (by rfl) (by rfl)) (by rfl) (by (try simp only [ln]);omega)) ?_ | refine sS (e7 (f:=j6) (x':=[⟨_,_,_,_,_,_,_⟩]) (by rfl) (by first | exact b7 | exact b0 | exact b6 (by rfl) (by rfl)) (by rfl) (by (try simp only [ln]);omega)) ?_ | refine sS (d7 (by rfl) (by rfl) (by (try simp only [ln]);omega) (by first | exact b7 | exact b0 | exact b6 (by rfl) (by rfl)) (by rfl) (by (try simp only [ln]);omega)) ?_ | refine sS (d7 (f:=i4) (x':=[⟨_,_,_,_,_,_,_⟩]) (by rfl) (by rfl) (by (try simp only [ln]);omega) (by first | exact b7 | exact b0 | exact b6 (by rfl) (by rfl)) (by rfl) (by (try simp only [ln]);omega)) ?_ | refine sS (d7 (f:=j6) (x':=[⟨_,_,_,_,_,_,_⟩]) (by rfl) (by rfl) (by (try simp only [ln]);omega) (by first | exact b7 | exact b0 | exact b6 (by rfl) (by rfl)) (by rfl) (by (try simp only [ln]);omega)) ?_ | refine sS (d8 (by rfl) (by first | exact b7 | exact b0 | exact b6 (by rfl) (by rfl)) (by rfl) (by (try simp only [ln]);omega)) ?_ | refine sS (d8 (f:=i4) (x':=[⟨_,_,_,_,_,_,_⟩]) (by rfl) (by first | exact b7 | exact b0 | exact b6 (by rfl) (by rfl)) (by rfl) (by (try simp only [ln]);omega)) ?_ | refine sS (d8 (f:=j6) (x':=[⟨_,_,_,_,_,_,_⟩]) (by rfl) (by first | exact b7 | exact b0 | exact b6 (by rfl) (by rfl)) (by rfl) (by (try simp only [ln]);omega)) ?_ | refine sS (u9 (by rfl) (by rfl) (by rfl) (by rfl) (by (try simp only [ln]);omega) (by (try simp only [ln]);omega) (by first | rfl | ((try simp only [ln]);omega)) (by (try simp only [ln]);omega)) ?_ | refine sS (v3 (by rfl) (by rfl) (by rfl) (by (try simp only [ln]);omega) (by (try simp only [ln]);omega) (by (try simp only [ln]);omega)) ?_ | refine sS (w5 (by rfl) (by rfl) (by rfl) (by (try simp only [ln]);omega) (by (try simp only [ln]);omega) (by (try simp only [ln]);omega)) ?_ | refine sS (o6 (by rfl) (by rfl) (by rfl) (by (try simp only [ln]);omega) (by (try simp only [ln]);omega) (by (try simp only [ln]);omega)) ?_ | refine sS (e9 (by rfl) (by rfl) (by omega) (l6 (d:=cl0) (by omega) (by omega))) ?_ | refine sS (e9 (by rfl) (by rfl) (by omega) (l6 (d:=A2) (by omega) (by omega))) ?_ | refine sS (B9 (by rfl) (by rfl) (by omega)) ?_ | refine sS (B8 (by rfl) (by rfl) (by omega)) ?_ | fail)
 all_goals (conv=>whnf)
 all_goals (first | exact PV.le.refl _ | (exfalso;omega))
end Go.Ab.Td

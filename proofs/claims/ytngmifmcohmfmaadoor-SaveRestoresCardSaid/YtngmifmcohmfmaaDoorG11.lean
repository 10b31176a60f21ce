/- A part of the proof: the texts TdRE, TdKe, TdKg, TdKi, TdRF, TdRG, TdRH, TdRI, TdKj, TdUa, AbIx, TdRK, TdEq, TdEr, TdRL. Under: nothing. -/
import Derived.Test.YtngmifmcohmfmaaDoorG10
import Derived.Test.YtngmifmcohmfmaaDoorG07
import Derived.Test.YtngmifmcohmfmaaDoorG05
import Derived.Test.YtngmifmcohmfmaaDoorG08
set_option linter.unusedVariables false
namespace Go.Ab.Td
set_option maxRecDepth 100000
set_option maxRecDepth 100000
open Go Go.Ab
variable {P:Program}
set_option linter.unusedSimpArgs false
attribute [local irreducible] d8
set_option maxHeartbeats 1000000 in
theorem F0 (C:Laid P) (s:B4) (n:Int) (l:List Ob) (h0:0≤n) (h1:n≤s.ops.length) (h2:s.ops.length - n+l.length≤100) (h3:s.ops.length≤1000000) (h4:l.length≤1000000):j6 P G o7 [aS s,pI n,.sl 7 (List.map g9 l)] [] (.v9 [aS {s with ops:=s.ops.take (s.ops.length - n.toNat)++l},pI 0]):=by
 refine i7 C (a5G C) rfl ?_
 have hw:IntKind.i64.wrap ((s.ops.length:Int) - n)=(s.ops.length:Int) - n:=wrap_small (by omega) (by omega)
 have hw2:IntKind.i64.wrap ((s.ops.length:Int) - n+l.length)=(s.ops.length:Int) - n+l.length:=wrap_small (by omega) (by omega)
 have ht:((s.ops.length:Int) - n).toNat=s.ops.length - n.toNat:=by omega
 repeat' ((conv=>whnf);first | (with_reducible refine sC (by kernel_rfl) ?_) | ((with_reducible refine sB ?_);first | refine Or.inl ⟨by first | assumption | (simp only [nm,List.length_map,hw,hw2];first | done | assumption | omega),?_⟩ | refine Or.inr (Or.inl ⟨by first | assumption | (simp only [nm,List.length_map,hw,hw2];first | done | assumption | omega),?_⟩) | (refine Or.inr (Or.inr ⟨fun hsp=>?_,fun hsp=>?_⟩) <;>(try simp only [nm,List.length_map,hw,hw2] at hsp) <;>try subst hsp)) | ((with_reducible refine x8 ?_);first | refine Or.inl ⟨by first | assumption | (simp only [nm,List.length_map,hw,hw2];first | done | assumption | omega),?_⟩ | refine Or.inr (Or.inl ⟨by first | assumption | (simp only [nm,List.length_map,hw,hw2];first | done | assumption | omega),?_⟩) | (refine Or.inr (Or.inr ⟨fun hsp=>?_,fun hsp=>?_⟩) <;>(try simp only [nm,List.length_map,hw,hw2] at hsp) <;>try subst hsp)) | ((with_reducible refine x9 ?_);first | refine Or.inl ⟨by first | assumption | (simp only [nm,List.length_map,hw,hw2];first | done | assumption | omega),?_⟩ | refine Or.inr (Or.inl ⟨by first | assumption | (simp only [nm,List.length_map,hw,hw2];first | done | assumption | omega),?_⟩) | (refine Or.inr (Or.inr ⟨fun hsp=>?_,fun hsp=>?_⟩) <;>(try simp only [nm,List.length_map,hw,hw2] at hsp) <;>try subst hsp)) | ((refine sP (by rfl) ?_);first | refine Or.inl ⟨by first | assumption | (simp only [nm,List.length_map,hw,hw2];first | done | assumption | omega),?_⟩ | refine Or.inr (Or.inl ⟨by first | assumption | (simp only [nm,List.length_map,hw,hw2];first | done | assumption | omega),?_⟩) | (refine Or.inr (Or.inr ⟨fun hsp=>?_,fun hsp=>?_⟩) <;>(try simp only [nm,List.length_map,hw,hw2] at hsp) <;>try subst hsp)) | refine sS (a3S (by rfl) (by rfl) (by rfl) (by omega) (by simp only [List.length_map,hw];omega) (by simp only [List.length_map,hw];omega)) ?_ | refine sS (o9 (f:=g9) (by rfl) (by first | exact e9 | exact d6 | exact d7 (by rfl) (by rfl)) (by rfl) (by simp only [List.length_map,hw,ht,List.length_drop,List.length_take];omega)) ?_ | refine sS (m7 (f:=g9) (x':=l) (by rfl) (by rfl) (by rfl) (by first | exact e9 | exact d6 | exact d7 (by rfl) (by rfl)) (by rfl) (by simp only [List.length_map,hw,ht,List.length_drop,List.length_take];omega)) ?_ | fail)
 all_goals (conv=>whnf)
 all_goals (refine x6 (K3.cons ?_ (K3.refl _));refine s7 (K3.cons (u3 ?_) (K3.refl _));simp only [List.length_map,hw,ht];simp;exact List.take_of_length_le (by simp))
end Go.Ab.Td
namespace Go.Ab.Td
set_option maxRecDepth 100000
set_option maxRecDepth 100000
open Go Go.Ab
variable {P:Program}
set_option linter.unusedSimpArgs false
attribute [local irreducible] d8
theorem a6P (k:Ob):∀ (l:List Ob) (i:Nat),(0≤i9 k i l)↔k ∈ l
 | [],i=>by simp [i9]
 | x::l,i=>by
   unfold i9
   split
   ·rename_i h;simp [h]
   ·rename_i h
    rw [a6P k l (i+1)]
    simp only [List.mem_cons]
    constructor
    ·exact .inr
    ·rintro (e | e)
     ·exact absurd e.symm h
     ·exact e
def u7 (g:Nat):Option m0:=match Nat.beq g A8 with | true=>some E8 | false=>none
def c1Q (c:Cl):List (List Ob):=[c.items,c.keys,c.A7]
end Go.Ab.Td
namespace Go.Ab.Td
set_option maxRecDepth 100000
set_option maxRecDepth 100000
open Go Go.Ab
variable {P:Program}
set_option linter.unusedSimpArgs false
attribute [local irreducible] d8
set_option maxHeartbeats 1000000 in
theorem a7D (C:Laid P) (h:List Cl) (hl:h.length<2 ^ 62):j6 P G E4 [.sl 7 (List.map k9 h)] [] (pI (r9 0 h)):=by
 refine i7 C (a5q C) rfl ?_
 repeat' ((conv=>whnf);first | (with_reducible refine sC (by kernel_rfl) ?_) | ((first | (with_reducible first | refine sB ?_ | refine x8 ?_ | refine x9 ?_) | refine sP (by rfl) ?_);first | refine oT ?_ | refine oF ?_ | (refine Or.inr (Or.inr ⟨fun hsp=>?_,fun hsp=>?_⟩) <;>(try simp only [nm] at hsp) <;>try subst hsp)) | fail)
 all_goals (conv=>whnf)
 intro X hX hW
 refine a3K hX (fun st (a:Nat × Int)=>st.upd [(3,.pv (pI a.2)),(8,.pv (pI (a.1:Int)))] []) (fun a m=>a.1+m=h.length∧(r9 0 h=r9 a.2 (h.drop a.1))) (0,0) h.length (by (conv=>whnf);first | done | rfl) (by simp) ?_
 intro m a ih hI
 rcases a2T h a.1 with ⟨x,hlt,hx⟩ | hge
 ·have hrow:=C0 (f:=k9) hx
  have hd:=a0w hx
  have hI2:=hI.2
  rw [hd] at hI2
  simp only [r9] at hI2
  repeat' ((conv=>whnf);first | (with_reducible refine sC (by kernel_rfl) ?_) | ((first | (with_reducible first | refine sB ?_ | refine x8 ?_ | refine x9 ?_) | refine sP (by rfl) ?_);first | refine oT ?_ | refine oF ?_ | (refine Or.inr (Or.inr ⟨fun hsp=>?_,fun hsp=>?_⟩) <;>(try simp only [nm,List.length_map] at hsp) <;>try subst hsp)) | refine ⟨_,_,a6v C x.kind x.bytes x.items x.keys x.A7 x.max x.at',?_⟩ | refine sS (e8 (by rfl) (by rfl) (by omega) hrow) ?_ | fail)
  all_goals (conv=>whnf)
  all_goals first
   | (refine ih (m - 1) (a.1+1,(IntKind.i64.wrap (a.2+x.size))) _ (by omega) ⟨by (try dsimp only);omega,?_⟩ (by (conv=>whnf);first | done | rfl | (simp (disch:=omega) only [z6])))
   | (with_reducible first | refine l8 ?_ | refine E2 ?_ | refine C7 ?_)
   | (refine E7 ?_;simp only [nm])
   | refine le_of_eq ?_
  all_goals grind
 ·have hd:h.drop a.1=[]:=List.drop_eq_nil_of_le hge
  have hI2:=hI.2
  rw [hd] at hI2
  simp only [r9] at hI2
  repeat' ((conv=>whnf);first | (with_reducible refine sC (by kernel_rfl) ?_) | ((first | (with_reducible first | refine sB ?_ | refine x8 ?_ | refine x9 ?_) | refine sP (by rfl) ?_);first | refine oT ?_ | refine oF ?_ | (refine Or.inr (Or.inr ⟨fun hsp=>?_,fun hsp=>?_⟩) <;>(try simp only [nm,List.length_map] at hsp) <;>try subst hsp)) | refine ⟨_,_,a6v C x.kind x.bytes x.items x.keys x.A7 x.max x.at',?_⟩ | fail)
  all_goals (conv=>whnf)
  all_goals first
   | (with_reducible first | refine l8 ?_ | refine E2 ?_ | refine C7 ?_)
   | (refine E7 ?_;simp only [nm])
   | refine le_of_eq ?_
  all_goals grind
end Go.Ab.Td
namespace Go.Ab.Td
set_option maxRecDepth 100000
open Go Go.Ab
variable {P:Program}
set_option linter.unusedSimpArgs false
attribute [local irreducible] d8
end Go.Ab.Td
namespace Go.Ab.Td
set_option maxRecDepth 100000
open Go Go.Ab
variable {P:Program}
set_option linter.unusedSimpArgs false
attribute [local irreducible] d8
end Go.Ab.Td
namespace Go.Ab.Td
set_option maxRecDepth 100000
open Go Go.Ab
variable {P:Program}
set_option linter.unusedSimpArgs false
attribute [local irreducible] d8
end Go.Ab.Td
namespace Go.Ab.Td
set_option maxRecDepth 100000
open Go Go.Ab
variable {P:Program}
set_option linter.unusedSimpArgs false
attribute [local irreducible] d8
end Go.Ab.Td
namespace Go.Ab.Td
set_option maxRecDepth 100000
open Go Go.Ab
variable {P:Program}
set_option linter.unusedSimpArgs false
attribute [local irreducible] d8
noncomputable def oct (h:List Cl) (o:Ob):Option (List UInt8):=if o.kind=5 then some o.name else if o.kind=6 then some (sub h o) else none
end Go.Ab.Td
namespace Go.Ab.Td
set_option maxRecDepth 100000
set_option maxRecDepth 100000
open Go Go.Ab
variable {P:Program}
set_option linter.unusedSimpArgs false
attribute [local irreducible] d8
set_option maxHeartbeats 1000000 in
theorem a6y (C:Laid P) (h:List Cl) (hl:h.length<2 ^ 62):j6 P G a1x [.sl 7 (List.map k9 h)] [] (pI (r9 0 h)):=by
 refine i7 C (b3m C) rfl ?_
 repeat' ((conv=>whnf);first | (with_reducible refine sC (by kernel_rfl) ?_) | ((first | (with_reducible first | refine sB ?_ | refine x8 ?_ | refine x9 ?_) | refine sP (by rfl) ?_);first | refine oT ?_ | refine oF ?_ | (refine Or.inr (Or.inr ⟨fun hsp=>?_,fun hsp=>?_⟩) <;>(try simp only [nm] at hsp) <;>try subst hsp)) | fail)
 all_goals (conv=>whnf)
 intro X hX hW
 refine a3K hX (fun st (a:Nat × Int)=>st.upd [(3,.pv (pI a.2)),(4,.pv (pI (a.1:Int)))] []) (fun a m=>a.1+m=h.length∧(r9 0 h=r9 a.2 (h.drop a.1))) (0,0) h.length (by (conv=>whnf);first | done | rfl) (by simp) ?_
 intro m a ih hI
 rcases a2T h a.1 with ⟨x,hlt,hx⟩ | hge
 ·have hrow:=C0 (f:=k9) hx
  have hd:=a0w hx
  have hI2:=hI.2
  rw [hd] at hI2
  simp only [r9] at hI2
  repeat' ((conv=>whnf);first | (with_reducible refine sC (by kernel_rfl) ?_) | ((first | (with_reducible first | refine sB ?_ | refine x8 ?_ | refine x9 ?_) | refine sP (by rfl) ?_);first | refine oT ?_ | refine oF ?_ | (refine Or.inr (Or.inr ⟨fun hsp=>?_,fun hsp=>?_⟩) <;>(try simp only [nm,List.length_map] at hsp) <;>try subst hsp)) | refine ⟨_,_,a5M C x.kind x.bytes x.items x.keys x.A7 x.max x.at',?_⟩ | refine sS (e8 (by rfl) (by rfl) (by omega) hrow) ?_ | fail)
  all_goals (conv=>whnf)
  all_goals first
   | (refine ih (m - 1) (a.1+1,(IntKind.i64.wrap (a.2+x.size))) _ (by omega) ⟨by (try dsimp only);omega,?_⟩ (by (conv=>whnf);first | done | rfl | (simp (disch:=omega) only [z6])))
   | (with_reducible first | refine l8 ?_ | refine E2 ?_ | refine C7 ?_)
   | (refine E7 ?_;simp only [nm])
   | refine le_of_eq ?_
  all_goals grind
 ·have hd:h.drop a.1=[]:=List.drop_eq_nil_of_le hge
  have hI2:=hI.2
  rw [hd] at hI2
  simp only [r9] at hI2
  repeat' ((conv=>whnf);first | (with_reducible refine sC (by kernel_rfl) ?_) | ((first | (with_reducible first | refine sB ?_ | refine x8 ?_ | refine x9 ?_) | refine sP (by rfl) ?_);first | refine oT ?_ | refine oF ?_ | (refine Or.inr (Or.inr ⟨fun hsp=>?_,fun hsp=>?_⟩) <;>(try simp only [nm,List.length_map] at hsp) <;>try subst hsp)) | refine ⟨_,_,a5M C x.kind x.bytes x.items x.keys x.A7 x.max x.at',?_⟩ | fail)
  all_goals (conv=>whnf)
  all_goals first
   | (with_reducible first | refine l8 ?_ | refine E2 ?_ | refine C7 ?_)
   | (refine E7 ?_;simp only [nm])
   | refine le_of_eq ?_
  all_goals grind
end Go.Ab.Td
namespace Go.Ab.Td
set_option maxRecDepth 100000
set_option maxRecDepth 100000
open Go Go.Ab
variable {P:Program}
set_option linter.unusedSimpArgs false
attribute [local irreducible] d8
set_option maxHeartbeats 1000000 in
theorem b2v (C:Laid P) (o:Ob) (n:Int):j6 P G a1A [aO o,pI n] [] (.bool (tt (n7 n o))):=by
 refine i7 C (b3p C) rfl ?_
 repeat' ((conv=>whnf);first | (with_reducible refine sC (by kernel_rfl) ?_) | ((first | (with_reducible first | refine sB ?_ | refine x8 ?_ | refine x9 ?_) | refine sP (by rfl) ?_);first | refine oT ?_ | refine oF ?_ | (refine Or.inr (Or.inr ⟨fun hsp=>?_,fun hsp=>?_⟩) <;>(try simp only [nm] at hsp) <;>try subst hsp)) | refine ⟨_,_,a6w C o.kind o.exec o.n o.name o.ref o.off o.len,?_⟩ | fail)
 all_goals (conv=>whnf)
 all_goals (first | (with_reducible refine E2 ?_) | (with_reducible refine C7 ?_) | (refine E7 ?_;try simp (disch:=omega) only [nm,wrap_small])) <;>(grind [n7,Ob.comp])
set_option maxHeartbeats 1000000 in
theorem L8 (C:Laid P) (l:List Ob) (n:Int) (hl:l.length<2 ^ 62):j6 P G X4 [.sl 7 (List.map g9 l),pI n] [] (.bool (tt (∃ o ∈ l,n7 n o))):=by
 refine i7 C (b3r C) rfl ?_
 repeat' ((conv=>whnf);first | (with_reducible refine sC (by kernel_rfl) ?_) | ((first | (with_reducible first | refine sB ?_ | refine x8 ?_ | refine x9 ?_) | refine sP (by rfl) ?_);first | refine oT ?_ | refine oF ?_ | (refine Or.inr (Or.inr ⟨fun hsp=>?_,fun hsp=>?_⟩) <;>(try simp only [nm] at hsp) <;>try subst hsp)) | fail)
 all_goals (conv=>whnf)
 intro X hX hW
 refine a3K hX (fun st (i:Nat)=>st.upd [(5,.pv (pI (i:Int)))] []) (fun i k=>i+k=l.length∧∀ j,j<i→∀ o,l[j]?=some o→¬ n7 n o) 0 l.length (by (conv=>whnf);first | done | rfl) ⟨by simp,by intro j hj;omega⟩ ?_
 intro m i ih hI
 rcases a2T l i with ⟨x,hlt,hx⟩ | hge
 ·have hrow:=C0 (f:=g9) hx
  have kN:=b2v C x n
  by_cases hp:n7 n x
  ·rw [show tt (n7 n x)=true from a2G.mpr hp] at kN
   repeat' ((conv=>whnf);first | (with_reducible refine sC (by kernel_rfl) ?_) | ((first | (with_reducible first | refine sB ?_ | refine x8 ?_ | refine x9 ?_) | refine sP (by rfl) ?_);first | refine oT ?_ | refine oF ?_ | (refine Or.inr (Or.inr ⟨fun hsp=>?_,fun hsp=>?_⟩) <;>(try simp only [nm,List.length_map] at hsp) <;>try subst hsp)) | refine ⟨_,_,kN,?_⟩ | refine sS (e8 (by rfl) (by rfl) (by omega) hrow) ?_ | fail)
   all_goals (conv=>whnf)
   all_goals exact E2 ⟨x,List.mem_of_getElem? hx,hp⟩
  ·rw [show tt (n7 n x)=false from X8.mpr hp] at kN
   repeat' ((conv=>whnf);first | (with_reducible refine sC (by kernel_rfl) ?_) | ((first | (with_reducible first | refine sB ?_ | refine x8 ?_ | refine x9 ?_) | refine sP (by rfl) ?_);first | refine oT ?_ | refine oF ?_ | (refine Or.inr (Or.inr ⟨fun hsp=>?_,fun hsp=>?_⟩) <;>(try simp only [nm,List.length_map] at hsp) <;>try subst hsp)) | refine ⟨_,_,kN,?_⟩ | refine sS (e8 (by rfl) (by rfl) (by omega) hrow) ?_ | fail)
   all_goals (conv=>whnf)
   all_goals (refine ih (m - 1) (i+1) _ (by omega) ⟨by (try dsimp only);omega,?_⟩ (by (conv=>whnf);first | done | rfl | (simp (disch:=omega) only [z6])))
   all_goals (intro j hj o ho;by_cases e:j<i;(·exact hI.2 j e o ho);have e2:j=i:=(by omega);subst e2;rw [hx] at ho;cases ho;exact hp)
 ·repeat' ((conv=>whnf);first | (with_reducible refine sC (by kernel_rfl) ?_) | ((first | (with_reducible first | refine sB ?_ | refine x8 ?_ | refine x9 ?_) | refine sP (by rfl) ?_);first | refine oT ?_ | refine oF ?_ | (refine Or.inr (Or.inr ⟨fun hsp=>?_,fun hsp=>?_⟩) <;>(try simp only [nm,List.length_map] at hsp) <;>try subst hsp)) | fail)
  all_goals (conv=>whnf)
  all_goals (refine C7 ?_;rintro ⟨o,ho,hp⟩;obtain ⟨q,hq⟩:=List.getElem?_of_mem ho;exact hI.2 q (by have:=(List.getElem?_eq_some_iff.1 hq).1;omega) o hq hp)
set_option maxHeartbeats 1000000 in
theorem T0 (C:Laid P) (s:B4) (l:List Sn) (n:Int) (hq:s.f3=l.map u1) (hl:l.length≤1000000):j6 P G X3 [aS s,pI n] [] (pI (plF n 0 l)):=by
 refine i7 C (b3q C) rfl ?_
 have hlen:s.f3.length=l.length:=by rw [hq,List.length_map]
 repeat' ((conv=>whnf);first | (with_reducible refine sC (by kernel_rfl) ?_) | ((first | (with_reducible first | refine sB ?_ | refine x8 ?_ | refine x9 ?_) | refine sP (by rfl) ?_);first | refine Or.inl ⟨by first | assumption | (simp only [nm,hlen];first | done | assumption | omega),?_⟩ | refine Or.inr (Or.inl ⟨by first | assumption | (simp only [nm,hlen];first | done | assumption | omega),?_⟩) | (refine Or.inr (Or.inr ⟨fun hsp=>?_,fun hsp=>?_⟩) <;>(try simp only [nm,hlen] at hsp) <;>try subst hsp)) | fail)
 all_goals (conv=>whnf)
 intro X hX hW
 refine a3K hX (fun st (i:Nat)=>st.upd [(5,.pv (pI (i:Int)))] []) (fun i k=>i+k=l.length∧plF n 0 l=plF n i (l.drop i)) 0 l.length (by (conv=>whnf);first | done | rfl) ⟨by simp,by simp⟩ ?_
 intro m i ih hI
 rcases a2T l i with ⟨x,hlt,hx⟩ | hge
 ·have hrow:s.f3[(i:Int).toNat]?=some (u1 x):=by rw [hq];exact C0 (f:=u1) hx
  have hd:=a0w hx
  have hI2:=hI.2
  rw [hd] at hI2
  simp only [plF] at hI2
  by_cases hn:x.n=n
  ·rw [if_pos hn] at hI2
   rw [hI2]
   repeat' ((conv=>whnf);first | (with_reducible refine sC (by kernel_rfl) ?_) | ((first | (with_reducible first | refine sB ?_ | refine x8 ?_ | refine x9 ?_) | refine sP (by rfl) ?_);first | refine Or.inl ⟨by first | assumption | (simp only [nm,hlen];first | done | assumption | omega),?_⟩ | refine Or.inr (Or.inl ⟨by first | assumption | (simp only [nm,hlen];first | done | assumption | omega),?_⟩) | (refine Or.inr (Or.inr ⟨fun hsp=>?_,fun hsp=>?_⟩) <;>(try simp only [nm,hlen] at hsp) <;>try subst hsp)) | refine sS (e8 (by rfl) (by rfl) (by omega) hrow) ?_ | fail)
   all_goals (conv=>whnf)
   all_goals exact PV.le.refl _
  ·rw [if_neg hn] at hI2
   repeat' ((conv=>whnf);first | (with_reducible refine sC (by kernel_rfl) ?_) | ((first | (with_reducible first | refine sB ?_ | refine x8 ?_ | refine x9 ?_) | refine sP (by rfl) ?_);first | refine Or.inl ⟨by first | assumption | (simp only [nm,hlen];first | done | assumption | omega),?_⟩ | refine Or.inr (Or.inl ⟨by first | assumption | (simp only [nm,hlen];first | done | assumption | omega),?_⟩) | (refine Or.inr (Or.inr ⟨fun hsp=>?_,fun hsp=>?_⟩) <;>(try simp only [nm,hlen] at hsp) <;>try subst hsp)) | refine sS (e8 (by rfl) (by rfl) (by omega) hrow) ?_ | fail)
   all_goals (conv=>whnf)
   all_goals (refine ih (m - 1) (i+1) _ (by omega) ⟨by (try dsimp only);omega,hI2⟩ (by (conv=>whnf);first | done | rfl | (simp (disch:=omega) only [z6])))
 ·have hd:l.drop i=[]:=List.drop_eq_nil_of_le hge
  have hI2:=hI.2
  rw [hd] at hI2
  simp only [plF] at hI2
  rw [hI2]
  repeat' ((conv=>whnf);first | (with_reducible refine sC (by kernel_rfl) ?_) | ((first | (with_reducible first | refine sB ?_ | refine x8 ?_ | refine x9 ?_) | refine sP (by rfl) ?_);first | refine Or.inl ⟨by first | assumption | (simp only [nm,hlen];first | done | assumption | omega),?_⟩ | refine Or.inr (Or.inl ⟨by first | assumption | (simp only [nm,hlen];first | done | assumption | omega),?_⟩) | (refine Or.inr (Or.inr ⟨fun hsp=>?_,fun hsp=>?_⟩) <;>(try simp only [nm,hlen] at hsp) <;>try subst hsp)) | fail)
  all_goals (conv=>whnf)
  all_goals exact PV.le.refl _
end Go.Ab.Td
namespace Go.Ab
set_option linter.unusedSimpArgs false
section
variable {σ:b7} {nm:Nat} {ev:RA→AV}
theorem b6d {es i:Nat} {a b c d y:List PV} {x r:RA} (hy:[a,b,c,d][i]?=some y) (ha:a.length=es) (hb:b.length=es) (hc:c.length=es) (hd:d.length=es) (hx:(ev x).cells=(a++(b++(c++d))).map .pv) (hg:(ev x).a0A=true) (hi:ev r= .pv (.int .i64 (i:Int))):
 step σ nm ev (.index true 4 es x r)=some {v:=.agg (y.map .pv)}:=by
 have hlt:i<4:=(List.getElem?_eq_some_iff.1 hy).1
 have hl:(ev x).cells.length=4*es:=by rw [hx];simp [ha,hb,hc,hd];omega
 simp only [step,hi,idxOf,hg,hl]
 rw [if_pos (by refine ⟨by omega,by show ((i:Nat):Int)<((4:Nat):Int);omega,?_,?_⟩ <;>first | trivial | rfl | assumption),hx]
 match i,hlt with
 | 0,_=>cases hy;simp [a0D,j8.of,← ha]
 | 1,_=>cases hy;subst ha;simp [a0D,j8.of,← hb]
 | 2,_=>
   cases hy
   subst ha
   have e1:List.drop (a.length+a.length) (a.map AV.pv)=[]:=List.drop_eq_nil_of_le (by simp)
   have e2:List.take a.length (c.map AV.pv)=c.map AV.pv:=List.take_of_length_le (by simp [hc])
   simp [a0D,j8.of,List.drop_append,hb,hc,Nat.mul_comm 2,Nat.mul_two,e1,List.take_append,e2]
 | 3,_=>
   cases hy
   subst ha
   have e1:List.drop (3*a.length) (a.map AV.pv)=[]:=List.drop_eq_nil_of_le (by simp;omega)
   have e2:List.drop (3*a.length - a.length) (b.map AV.pv)=[]:=List.drop_eq_nil_of_le (by simp [hb];omega)
   have e3:List.drop (3*a.length - a.length - a.length) (c.map AV.pv)=[]:=List.drop_eq_nil_of_le (by simp [hc];omega)
   have e5:3*a.length - a.length - a.length - a.length=0:=by omega
   have e4:List.take a.length (d.map AV.pv)=d.map AV.pv:=List.take_of_length_le (by simp [hd])
   simp [a0D,j8.of,List.drop_append,hb,hc,e1,e2,e3,e4,e5]
theorem b4Q {i:Nat} {a b c d y:PV} {x r:RA} (hy:[a,b,c,d][i]?=some y) (hx:(ev x).cells=[.pv a,.pv b,.pv c,.pv d]) (hg:(ev x).a0A=true) (hi:ev r= .pv (.int .i64 (i:Int))):
 step σ nm ev (.index false 4 1 x r)=some {v:=.pv y}:=by
 have hlt:i<4:=(List.getElem?_eq_some_iff.1 hy).1
 have hl:(ev x).cells.length=4*1:=by rw [hx];rfl
 simp only [step,hi,idxOf,hg,hl]
 rw [if_pos (by refine ⟨by omega,by show ((i:Nat):Int)<((4:Nat):Int);omega,?_,?_⟩ <;>first | trivial | rfl | assumption),hx]
 match i,hlt with
 | 0,_=>cases hy;rfl
 | 1,_=>cases hy;rfl
 | 2,_=>cases hy;rfl
 | 3,_=>cases hy;rfl
end
end Go.Ab
namespace Go.Ab.Td
set_option maxRecDepth 100000
open Go Go.Ab
variable {P:Program}
set_option linter.unusedSimpArgs false
attribute [local irreducible] d8
open Classical in
noncomputable def eqv (h:List Cl) (a b:Ob):Prop:=if ¬ fits h a∨¬ fits h b then False else if a.isNum∧b.isNum then a.val=b.val else if (oct h a).isSome=true∧(oct h b).isSome=true then (oct h a).getD []=(oct h b).getD [] else ({a with exec:=false}:Ob)={b with exec:=false}
end Go.Ab.Td
namespace Go.Ab.Td
set_option maxRecDepth 100000
open Go Go.Ab
variable {P:Program}
set_option linter.unusedSimpArgs false
attribute [local irreducible] d8
end Go.Ab.Td
namespace Go.Ab.Td
set_option maxRecDepth 100000
open Go Go.Ab
variable {P:Program}
set_option linter.unusedSimpArgs false
attribute [local irreducible] d8
end Go.Ab.Td
namespace Go.Ab.Td
set_option maxRecDepth 100000
set_option maxRecDepth 100000
open Go Go.Ab
variable {P:Program}
set_option linter.unusedSimpArgs false
attribute [local irreducible] d8
theorem c2U {h:List Cl} {o:Ob} (hv:a8l h o [7,8]=0):(0≤o.ref∧o.ref<h.length)∧(0≤o.off∧0≤o.len∧o.off+o.len≤1000)∧o.off+o.len≤(cellAt h o).items.length:=by
 obtain ⟨⟨hr1,hr2⟩,⟨hf1,hf2,hf3⟩,hk,hc⟩:=b2V hv
 have hk7:o.kind=7∨o.kind=8:=by simpa using hk
 have hck:I1 o.kind=2:=by unfold I1;rw [if_neg (by omega),if_pos hk7]
 obtain ⟨hc3,hc4,hc5⟩:=hc.resolve_left (by rw [hck];decide)
 refine ⟨⟨hr1,by omega⟩,⟨hf1,hf2,hf3⟩,?_⟩
 rcases hc5 with h5 | h5 | h5
 ·omega
 ·omega
 ·rw [hck] at hc4
  simpa [Cl.length,hc4] using h5
open Classical in
noncomputable def b9b (o:Ob) (off n:Int):Ob × Int:=
 if ¬ o.right then (ob0,2) else if o.kind≠6∧o.kind≠7∧o.kind≠8 then (ob0,22)
 else if off<0∨n<0∨off>o.len∨n>IntKind.i64.wrap (o.len - off) then (ob0,23) else ({o with off:=IntKind.i64.wrap (o.off+off),len:=n},0)
set_option maxHeartbeats 1000000 in
theorem J6 (C:Laid P) (l1 l2:List Ob) (hl:l1.length<2 ^ 62):j6 P G p8 [.sl 7 (List.map g9 l1),.sl 7 (List.map g9 l2)] [] (.bool (tt (l1=l2))):=by
 refine i7 C (a1j C) rfl ?_
 repeat' ((conv=>whnf);first | (with_reducible refine sC (by kernel_rfl) ?_) | ((first | (with_reducible first | refine sB ?_ | refine x8 ?_ | refine x9 ?_) | refine sP (by rfl) ?_);first | refine oT ?_ | refine oF ?_ | (refine Or.inr (Or.inr ⟨fun hsp=>?_,fun hsp=>?_⟩) <;>(try simp only [nm,List.length_map] at hsp) <;>try subst hsp)) | fail)
 all_goals (conv=>whnf)
 all_goals try (exact C7 (by intro e;subst e;simp_all))
 intro X hX hW
 refine a3K hX (fun st (a:Nat)=>st.upd [(5,.pv (pI (a:Int)))] []) (fun a m=>a+m=l1.length∧(l1.length=l2.length∧((l1=l2)=(l1.drop a=l2.drop a)))) 0 l1.length (by (conv=>whnf);first | done | rfl) (by simp;omega) ?_
 intro m i ih hI
 rcases a2T l1 i with ⟨x,hlt,hx⟩ | hge
 ·have hrow:=C0 (f:=g9) hx
  have hd:=a0w hx
  have hI2:=hI.2
  rw [hd] at hI2
  obtain ⟨y,hy⟩:∃ y,l2[i]?=some y:=⟨_,List.getElem?_eq_getElem (by omega)⟩
  have hrow2:=C0 (f:=g9) hy
  have hd2:=a0w hy
  rw [hd2,List.cons.injEq] at hI2
  repeat' ((conv=>whnf);first | (with_reducible refine sC (by kernel_rfl) ?_) | ((first | (with_reducible first | refine sB ?_ | refine x8 ?_ | refine x9 ?_) | refine sP (by rfl) ?_);first | refine oT ?_ | refine oF ?_ | (refine Or.inr (Or.inr ⟨fun hsp=>?_,fun hsp=>?_⟩) <;>(try simp only [nm,List.length_map] at hsp) <;>try subst hsp)) | refine sS (e8 (by rfl) (by rfl) (by omega) hrow) ?_ | refine sS (e8 (by rfl) (by rfl) (by omega) hrow2) ?_ | fail)
  all_goals (conv=>whnf)
  all_goals first
   | (refine ih (m - 1) (i+1) _ (by omega) ⟨by (try dsimp only);omega,?_⟩ (by (conv=>whnf);first | done | rfl | (simp (disch:=omega) only [z6])))
   | (with_reducible first | refine l8 ?_ | refine E2 ?_ | refine C7 ?_)
   | (refine E7 ?_;simp only [nm])
   | refine le_of_eq ?_
  all_goals (first | (have hd2:l2.drop i=[]:=List.drop_eq_nil_of_le (by omega);grind) | grind)
 ·have hd:l1.drop i=[]:=List.drop_eq_nil_of_le hge
  have hI2:=hI.2
  rw [hd] at hI2
  repeat' ((conv=>whnf);first | (with_reducible refine sC (by kernel_rfl) ?_) | ((first | (with_reducible first | refine sB ?_ | refine x8 ?_ | refine x9 ?_) | refine sP (by rfl) ?_);first | refine oT ?_ | refine oF ?_ | (refine Or.inr (Or.inr ⟨fun hsp=>?_,fun hsp=>?_⟩) <;>(try simp only [nm,List.length_map] at hsp) <;>try subst hsp)) | fail)
  all_goals (conv=>whnf)
  all_goals first
   | (with_reducible first | refine l8 ?_ | refine E2 ?_ | refine C7 ?_)
   | (refine E7 ?_;simp only [nm])
   | refine le_of_eq ?_
  all_goals (first | (have hd2:l2.drop i=[]:=List.drop_eq_nil_of_le (by omega);grind) | grind)
end Go.Ab.Td

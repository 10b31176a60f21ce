/- A part of the proof: the texts TdZl, TdAr3, TdLaid. Under: nothing. -/
import Derived.Test.YtomfaadmmchdcaaGreatDoorG26
import Derived.Test.YtomfaadmmchdcaaGreatDoorG28
import Derived.Test.YtomfaadmmchdcaaGreatDoorG29
import Derived.Test.YtomfaadmmchdcaaGreatDoorG05
import Derived.Test.YtomfaadmmchdcaaGreatDoorG22
import Derived.Test.YtomfaadmmchdcaaGreatDoorG06
import Derived.Test.YtomfaadmmchdcaaGreatDoorChecked
import Derived.KernelRfl
set_option linter.unusedVariables false
namespace Go.Ab.Td
set_option maxRecDepth 100000
set_option maxRecDepth 100000
open Go Go.Ab
variable {P:Program}
set_option linter.unusedSimpArgs false
attribute [local irreducible] e9
set_option maxHeartbeats 8000000 in
theorem a8j (C:Laid P) (cells ops d5:List (List PV)) (hc:∀ r ∈ cells,a1W r) (ho:∀ r ∈ ops,a1W r) (hd:∀ r ∈ d5,∃ D,r=[.int .u8 D]∧0≤D∧D<256) (w:List Wd) (key:Ob):l3 P G a0U [.agg [.sl 5 cells,.sl 5 ops,.sl 1 d5],.sl 5 (w.map Wd.row),aO key] [] (.bool true):=by
 refine k8 C (a9h C) rfl ?_
 obtain ⟨s,⟨ds, -,hd6⟩,kst⟩:=c0r C cells ops d5 hc ho hd
 have hs:=ds.dh.sm (by decide)
 have hv9:=ds.dv
 have hdn:=ds.dn
 clear hc ho hd
 obtain ⟨L,hL⟩:∃ L,L=w.take (8:Int).toNat:=⟨_,rfl⟩
 have hLL:(List.take (8:Int).toNat w).length=L.length:=by rw [hL]
 have hLl:L.length≤8:=by rw [hL,show (8:Int).toNat=8 from rfl,List.length_take];omega
 repeat' ((conv=>whnf);first | (with_reducible refine sC (by kernel_rfl) ?_) | ((first | (with_reducible first | refine sB ?_ | refine z7 ?_ | refine z8 ?_) | refine sP (by rfl) ?_);first | refine oT ?_ | refine oF ?_ | (refine Or.inr (Or.inr ⟨fun hsp=>?_,fun hsp=>?_⟩) <;>(try simp only [nm,List.length_map] at hsp) <;>try subst hsp)) | refine ⟨_,_,TdW16.ok C,?_⟩ | refine ⟨_,_,kst,?_⟩ | refine sS (b9c (f:=Wd.row) (by rfl) (by rfl) (by decide)) ?_ | fail)
 all_goals (conv=>whnf)
 intro X hX hW
 refine a3T hX (fun st (a:Nat × List Ob)=>st.upd [(8,.own 40 0 a.2.length),(29,.pv (pI (a.1:Int)))] [(40,.arr 7 (a.2.map i4) false)]) (fun a k=>a.1+k=L.length∧a.2.length=a.1+1) (0,[key]) L.length (by (conv=>whnf);first | done | rfl) ⟨by simp,by simp⟩ ?_
 intro m a ih hI
 obtain ⟨i,Q⟩:=a
 obtain ⟨hI1,hQl⟩:=hI
 dsimp only at hI1 hQl
 have w1:IntKind.i64.wrap ((i:Int)+1)=((i+1:Nat):Int):=by rw [wrap_small (by omega) (by omega)];omega
 rcases a3I L i with ⟨x,hlt,hx⟩ | hge
 ·have hrow:=K4 (f:=Wd.row) hx
  rw [hL] at hrow
  obtain ⟨K,A,B,N,S,hA,hB,hN⟩:=x
  have kO:=I1 C s.heap hs K A B N S hA hB hN
  generalize a6H s.heap K A B N=o at kO
  repeat' ((conv=>whnf);first | (with_reducible refine sC (by kernel_rfl) ?_) | ((first | (with_reducible first | refine sB ?_ | refine z7 ?_ | refine z8 ?_) | refine sP (by rfl) ?_);first | refine Or.inl ⟨by first | assumption | (simp only [nm,List.length_map,hLL];first | done | assumption | omega),?_⟩ | refine Or.inr (Or.inl ⟨by first | assumption | (simp only [nm,List.length_map,hLL];first | done | assumption | omega),?_⟩) | (refine Or.inr (Or.inr ⟨fun hsp=>?_,fun hsp=>?_⟩) <;>(try simp only [nm,List.length_map,hLL] at hsp) <;>try subst hsp)) | refine ⟨_,_,kO,?_⟩ | refine sS (e7 (by rfl) (by rfl) (by omega) hrow) ?_ | refine sS (i9 (f:=i4) (l:=Q) (x':=[o]) (by rfl) (by rfl) rfl (by first | exact d4 | exact b8 | exact b9 (by rfl) (by rfl)) (by rfl) (by simp;omega)) ?_ | fail)
  all_goals (conv=>whnf)
  all_goals (refine ih (m - 1) (i+1,Q++[o]) _ (by omega) ⟨by first | omega | (dsimp only;omega),by first | omega | (simp [hQl];done)⟩ (by (conv=>whnf);first | done | rfl | (rw [w1];first | done | rfl | (simp only [List.length_append];first | done | rfl))))
 ·clear ih
  repeat' ((conv=>whnf);first | (with_reducible refine sC (by kernel_rfl) ?_) | ((first | (with_reducible first | refine sB ?_ | refine z7 ?_ | refine z8 ?_) | refine sP (by rfl) ?_);first | refine Or.inl ⟨by first | assumption | (simp only [nm,List.length_map,hLL];first | done | assumption | omega),?_⟩ | refine Or.inr (Or.inl ⟨by first | assumption | (simp only [nm,List.length_map,hLL];first | done | assumption | omega),?_⟩) | (refine Or.inr (Or.inr ⟨fun hsp=>?_,fun hsp=>?_⟩) <;>(try simp only [nm,List.length_map,hLL] at hsp) <;>try subst hsp)) | fail)
  all_goals (conv=>whnf)
  intro Y hY hWY
  refine a3T hY (fun st (a:Nat)=>st.upd [(43,.pv (pI (a:Int)))] []) (fun a k=>a+k=Q.length) 0 Q.length (by (conv=>whnf);first | done | rfl) (by simp) ?_
  intro m2 j jh hJ
  have w2:IntKind.i64.wrap ((j:Int)+1)=((j+1:Nat):Int):=by rw [wrap_small (by omega) (by omega)];omega
  rcases a3I Q j with ⟨x,hlt,hx⟩ | hge
  ·have hrow:(List.map i4 Q)[j]?=some (i4 x):=by rw [List.getElem?_map,hx];rfl
   rcases c2g s.heap x s.d5 with ⟨i,d,v,ht⟩ | hno
   ·have kA:=c0H C s x hs (by omega) hv9 hdn i d v ht
    have kB:=c0I C s x hs (by omega) hv9 i d v ht
    repeat' ((conv=>whnf);first | (with_reducible refine sC (by kernel_rfl) ?_) | ((first | (with_reducible first | refine sB ?_ | refine z7 ?_ | refine z8 ?_) | refine sP (by rfl) ?_);first | refine oT ?_ | refine oF ?_ | (refine Or.inr (Or.inr ⟨fun hsp=>?_,fun hsp=>?_⟩) <;>(try simp only [nm,List.length_map] at hsp) <;>try subst hsp)) | refine ⟨_,_,kA,?_⟩ | refine ⟨_,_,kB,?_⟩ | refine sS (a9Y (by rfl) (by rfl) (by rfl) (by omega) (by show (j:Int)<(Q.length:Int);omega)) ?_ | refine sS (b5y (by rfl) (by rfl) hrow (by rfl)) ?_ | refine sS (e7 (by rfl) (by rfl) (by omega) (by simpa using hrow)) ?_ | fail)
    all_goals (conv=>whnf)
    all_goals (refine jh (m2 - 1) (j+1) _ (by omega) (by omega) (by (conv=>whnf);first | done | rfl | (rw [w2];first | done | rfl)))
   ·have kA:=b5G C s x hs (by omega) hv9 hdn hno
    have kB:=b5H C s x hs (by omega) hv9 hno
    repeat' ((conv=>whnf);first | (with_reducible refine sC (by kernel_rfl) ?_) | ((first | (with_reducible first | refine sB ?_ | refine z7 ?_ | refine z8 ?_) | refine sP (by rfl) ?_);first | refine oT ?_ | refine oF ?_ | (refine Or.inr (Or.inr ⟨fun hsp=>?_,fun hsp=>?_⟩) <;>(try simp only [nm,List.length_map] at hsp) <;>try subst hsp)) | refine ⟨_,_,kA,?_⟩ | refine ⟨_,_,kB,?_⟩ | refine sS (a9Y (by rfl) (by rfl) (by rfl) (by omega) (by show (j:Int)<(Q.length:Int);omega)) ?_ | refine sS (b5y (by rfl) (by rfl) hrow (by rfl)) ?_ | refine sS (e7 (by rfl) (by rfl) (by omega) (by simpa using hrow)) ?_ | fail)
    all_goals (conv=>whnf)
    all_goals (refine jh (m2 - 1) (j+1) _ (by omega) (by omega) (by (conv=>whnf);first | done | rfl | (rw [w2];first | done | rfl)))
  ·repeat' ((conv=>whnf);first | (with_reducible refine sC (by kernel_rfl) ?_) | ((first | (with_reducible first | refine sB ?_ | refine z7 ?_ | refine z8 ?_) | refine sP (by rfl) ?_);first | refine oT ?_ | refine oF ?_ | (refine Or.inr (Or.inr ⟨fun hsp=>?_,fun hsp=>?_⟩) <;>(try simp only [nm,List.length_map] at hsp) <;>try subst hsp)) | fail)
   all_goals (conv=>whnf)
   all_goals (exact PV.le.refl _)
end Go.Ab.Td
namespace Go.Ab.Td
set_option maxRecDepth 100000
set_option maxRecDepth 100000
open Go Go.Ab Go.ChangeShapes
theorem c4s {p:PV} (h:a9J (false,[.sl a5T]) p):∃ l:List Wd,p= .sl 5 (l.map Wd.row):=by
 obtain ⟨qs,e,hl,h⟩:=h
 simp only [a8K] at e
 subst e
 have k:=h 0 _ _ rfl rfl
 cases k with
 | sl w g=>
   obtain ⟨l,rfl,_⟩:=b7D (Q:=fun _=>True) (fun qs h=>by obtain ⟨w,e⟩:=b7E h;exact ⟨w,e,trivial⟩) _ w g
   exact ⟨l,rfl⟩
end Go.Ab.Td
namespace Go.Ab.Td
set_option maxRecDepth 100000
set_option maxRecDepth 100000
open Go Go.Ab Go.Proofs
theorem laid:Laid Tryz.prog:=⟨by kernel_rfl,by kernel_rfl,by kernel_rfl,by kernel_rfl,by kernel_rfl⟩
end Go.Ab.Td

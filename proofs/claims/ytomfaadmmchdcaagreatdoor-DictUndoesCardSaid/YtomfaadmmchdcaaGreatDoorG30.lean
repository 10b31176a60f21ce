/- A part of the proof: the texts TdZa. Under: nothing. -/
import Derived.Test.YtomfaadmmchdcaaGreatDoorG13
set_option linter.unusedVariables false
namespace Go.Ab.Td
set_option maxRecDepth 100000
set_option maxRecDepth 100000
open Go Go.Ab
variable {P:Program}
set_option linter.unusedSimpArgs false
attribute [local irreducible] e9
theorem b5T {α:Type} {f:α→List PV} {l:List α} {i:Nat} {x:α} (h:l[i]?=some x):(l.map f)[i]?=some (f x):=by simp [h]
set_option maxHeartbeats 1000000 in
theorem ok_dict_num (C:Laid P) (n:Int):l3 P G a3r [pI n] [] (aO ⟨3,false,n,[],0,0,0⟩):=by
 refine k8 C (b6D C) rfl ?_
 repeat' ((conv=>whnf);first | (with_reducible refine sC (by kernel_rfl) ?_) | ((first | (with_reducible first | refine sB ?_ | refine z7 ?_ | refine z8 ?_) | refine sP (by rfl) ?_);first | refine oT ?_ | refine oF ?_ | (refine Or.inr (Or.inr ⟨fun hsp=>?_,fun hsp=>?_⟩) <;>(try simp only [nm] at hsp) <;>try subst hsp)) | fail)
 all_goals (conv=>whnf)
 all_goals (first | exact PV.le.refl _ | ((repeat' (first | (with_reducible exact PV.le.refl _) | exact PV.le.emp _ | exact E6.nil | (with_reducible refine p8 ?_) | (with_reducible refine o6 ?_) | (refine E6.cons ?_ ?_) | (with_reducible refine l0 ?_) | (with_reducible refine q8 ?_) | (with_reducible refine A9 ?_) | (with_reducible refine z9 ?_) | (with_reducible refine o3 ?_) | (refine A8 ?_))) <;>first | rfl | exact le_of_eq rfl))
set_option maxHeartbeats 1000000 in
theorem a7H (C:Laid P) (b:Bool):l3 P G N9 [.bool b] [] (aO ⟨2,false,(if b=true then 1 else 0),[],0,0,0⟩):=by
 refine k8 C (a9g C) rfl ?_
 cases b
 repeat' ((conv=>whnf);first | (with_reducible refine sC (by kernel_rfl) ?_) | ((first | (with_reducible first | refine sB ?_ | refine z7 ?_ | refine z8 ?_) | refine sP (by rfl) ?_);first | refine oT ?_ | refine oF ?_ | (refine Or.inr (Or.inr ⟨fun hsp=>?_,fun hsp=>?_⟩) <;>(try simp only [nm] at hsp) <;>try subst hsp)) | fail)
 all_goals (conv=>whnf)
 all_goals (first | exact PV.le.refl _ | ((repeat' (first | (with_reducible exact PV.le.refl _) | exact PV.le.emp _ | exact E6.nil | (with_reducible refine p8 ?_) | (with_reducible refine o6 ?_) | (refine E6.cons ?_ ?_) | (with_reducible refine l0 ?_) | (with_reducible refine q8 ?_) | (with_reducible refine A9 ?_) | (with_reducible refine z9 ?_) | (with_reducible refine o3 ?_) | (refine A8 ?_))) <;>first | rfl | exact le_of_eq rfl))
set_option maxHeartbeats 1000000 in
theorem a1j (C:Laid P) (s:B8) (dl:List Ob) (d:Ob) (hd:s.d5=dl++[d]) (hl:dl.length≤1000):l3 P G o8 [aS s] [] (aO d):=by
 refine k8 C (a2b C) rfl ?_
 have hlen:s.d5.length=dl.length+1:=by rw [hd];simp
 have hw:IntKind.i64.wrap ((s.d5.length:Int) - 1)=(dl.length:Int):=by rw [wrap_small (by omega) (by omega)];omega
 have hrow:(List.map i4 s.d5)[((dl.length:Int)).toNat]?=some (i4 d):=by rw [hd];simp
 repeat' ((conv=>whnf);first | (with_reducible refine sC (by kernel_rfl) ?_) | ((first | (with_reducible first | refine sB ?_ | refine z7 ?_ | refine z8 ?_) | refine sP (by rfl) ?_);first | refine Or.inl ⟨by first | assumption | (simp only [nm,List.length_map,hlen];first | done | assumption | omega),?_⟩ | refine Or.inr (Or.inl ⟨by first | assumption | (simp only [nm,List.length_map,hlen];first | done | assumption | omega),?_⟩) | (refine Or.inr (Or.inr ⟨fun hsp=>?_,fun hsp=>?_⟩) <;>(try simp only [nm,List.length_map,hlen] at hsp) <;>try subst hsp)) | refine sS (e7 (by rfl) (by rfl) (by simp only [List.length_map,hw];omega) (by simp only [List.length_map,hw];exact hrow)) ?_ | fail)
 all_goals (conv=>whnf)
 all_goals (first | exact PV.le.refl _ | ((repeat' (first | (with_reducible exact PV.le.refl _) | exact PV.le.emp _ | exact E6.nil | (with_reducible refine p8 ?_) | (with_reducible refine o6 ?_) | (refine E6.cons ?_ ?_) | (with_reducible refine l0 ?_) | (with_reducible refine q8 ?_) | (with_reducible refine A9 ?_) | (with_reducible refine z9 ?_) | (with_reducible refine o3 ?_) | (refine A8 ?_))) <;>first | rfl | exact le_of_eq rfl))
set_option maxHeartbeats 1000000 in
theorem ok_opnd_type (C:Laid P) (s:B8) (n dd:Int) (kd:Bool) (lo l:List Ob) (hop:s.ops=lo++l) (hn:(l.length:Int)=n) (hlo:lo.length+l.length≤1000000) (d0:0≤dd) (d1:dd≤n) (hb:∃ p ∈ l.take dd.toNat,p.kind≠9):l3 P G e6 [aS s,pI n,pI dd,.bool kd] [] (.o0 [.sl 7 (List.map i4 []),aO V8,pI 22]):=by
 refine k8 C (Q3 C) rfl ?_
 have kT:=a9t C s n (by omega) (by rw [hop];simp;omega) (by rw [hop];simp;omega)
 rw [show s.ops.drop (s.ops.length - n.toNat)=l by rw [hop,List.length_append,show lo.length+l.length - n.toNat=lo.length by omega,List.drop_left]] at kT
 repeat' ((conv=>whnf);first | (with_reducible refine sC (by kernel_rfl) ?_) | ((first | (with_reducible first | refine sB ?_ | refine z7 ?_ | refine z8 ?_) | refine sP (by rfl) ?_);first | refine oT ?_ | refine oF ?_ | (refine Or.inr (Or.inr ⟨fun hsp=>?_,fun hsp=>?_⟩) <;>(try simp only [nm,List.length_map] at hsp) <;>try subst hsp)) | refine ⟨_,_,kT,?_⟩ | refine sS (O4 (f:=i4) (l:=l) (a:=0) (h:=dd) (by rfl) (by rfl) (by rfl) (by omega) (by omega) (by omega)) ?_ | fail)
 all_goals (conv=>whnf)
 intro X hX hW
 have hTl:(l.take dd.toNat).length=dd.toNat:=by rw [List.length_take];omega
 have hTd:List.drop (0:Int).toNat (l.take dd.toNat)=l.take dd.toNat:=rfl
 refine a3T hX (fun st (a:Nat)=>st.upd [(28,.pv (pI (a:Int)))] []) (fun a k=>a+k=dd.toNat∧(∀ j,j<a→∀ p,(l.take dd.toNat)[j]?=some p→p.kind=9)) 0 dd.toNat (by (conv=>whnf);first | done | rfl) ⟨by simp,by intro j hj;omega⟩ ?_
 intro m i ih hI
 rcases a3I (l.take dd.toNat) i with ⟨x,hlt,hx⟩ | hge
 ·have hrow:=K4 (f:=i4) hx
  by_cases hk:x.kind=9
  ·repeat' ((conv=>whnf);first | (with_reducible refine sC (by kernel_rfl) ?_) | ((first | (with_reducible first | refine sB ?_ | refine z7 ?_ | refine z8 ?_) | refine sP (by rfl) ?_);first | refine Or.inl ⟨by first | assumption | (simp only [nm,List.length_map,hTl,hTd];first | done | assumption | omega),?_⟩ | refine Or.inr (Or.inl ⟨by first | assumption | (simp only [nm,List.length_map,hTl,hTd];first | done | assumption | omega),?_⟩) | (refine Or.inr (Or.inr ⟨fun hsp=>?_,fun hsp=>?_⟩) <;>(try simp only [nm,List.length_map,hTl,hTd] at hsp) <;>try subst hsp)) | refine sS (e7 (by rfl) (by rfl) (by omega) hrow) ?_ | fail)
   all_goals (conv=>whnf)
   all_goals (refine ih (m - 1) (i+1) _ (by omega) ⟨by (try dsimp only);omega,?_⟩ (by (conv=>whnf);first | done | rfl | (simp (disch:=omega) only [P9])))
   all_goals (intro j hj p hp;by_cases e:j<i;(·exact hI.2 j e p hp);have e2:j=i:=(by omega);subst e2;rw [hx] at hp;cases hp;exact hk)
  ·repeat' ((conv=>whnf);first | (with_reducible refine sC (by kernel_rfl) ?_) | ((first | (with_reducible first | refine sB ?_ | refine z7 ?_ | refine z8 ?_) | refine sP (by rfl) ?_);first | refine Or.inl ⟨by first | assumption | (simp only [nm,List.length_map,hTl,hTd];first | done | assumption | omega),?_⟩ | refine Or.inr (Or.inl ⟨by first | assumption | (simp only [nm,List.length_map,hTl,hTd];first | done | assumption | omega),?_⟩) | (refine Or.inr (Or.inr ⟨fun hsp=>?_,fun hsp=>?_⟩) <;>(try simp only [nm,List.length_map,hTl,hTd] at hsp) <;>try subst hsp)) | refine sS (e7 (by rfl) (by rfl) (by omega) hrow) ?_ | fail)
   all_goals (conv=>whnf)
   all_goals (first | exact PV.le.refl _ | ((repeat' (first | (with_reducible exact PV.le.refl _) | exact PV.le.emp _ | exact E6.nil | (with_reducible refine p8 ?_) | (with_reducible refine o6 ?_) | (refine E6.cons ?_ ?_) | (with_reducible refine l0 ?_) | (with_reducible refine q8 ?_) | (with_reducible refine A9 ?_) | (with_reducible refine z9 ?_) | (with_reducible refine o3 ?_) | (refine A8 ?_))) <;>first | rfl | exact le_of_eq rfl))
 ·exfalso
  obtain ⟨p,hp,hpk⟩:=hb
  obtain ⟨q,hq⟩:=List.getElem?_of_mem hp
  exact hpk (hI.2 q (by have:=(List.getElem?_eq_some_iff.1 hq).1;omega) p hq)
set_option maxHeartbeats 1000000 in
theorem ok_opnd (C:Laid P) (s:B8) (n dd:Int) (lo l:List Ob) (hop:s.ops=lo++l) (hn:(l.length:Int)=n) (hlo:lo.length+l.length≤1000000) (d0:0≤dd) (d1:dd≤n) (h9:∀ p ∈ l.take dd.toNat,p.kind=9):l3 P G e6 [aS s,pI n,pI dd,.bool false] [] (.o0 [.sl 7 (List.map i4 l),aO V8,pI 0]):=by
 refine k8 C (Q3 C) rfl ?_
 have kT:=a9t C s n (by omega) (by rw [hop];simp;omega) (by rw [hop];simp;omega)
 rw [show s.ops.drop (s.ops.length - n.toNat)=l by rw [hop,List.length_append,show lo.length+l.length - n.toNat=lo.length by omega,List.drop_left]] at kT
 repeat' ((conv=>whnf);first | (with_reducible refine sC (by kernel_rfl) ?_) | ((first | (with_reducible first | refine sB ?_ | refine z7 ?_ | refine z8 ?_) | refine sP (by rfl) ?_);first | refine oT ?_ | refine oF ?_ | (refine Or.inr (Or.inr ⟨fun hsp=>?_,fun hsp=>?_⟩) <;>(try simp only [nm,List.length_map] at hsp) <;>try subst hsp)) | refine ⟨_,_,kT,?_⟩ | refine sS (O4 (f:=i4) (l:=l) (a:=0) (h:=dd) (by rfl) (by rfl) (by rfl) (by omega) (by omega) (by omega)) ?_ | fail)
 all_goals (conv=>whnf)
 intro X hX hW
 have hTl:(l.take dd.toNat).length=dd.toNat:=by rw [List.length_take];omega
 have hTd:List.drop (0:Int).toNat (l.take dd.toNat)=l.take dd.toNat:=rfl
 refine a3T hX (fun st (a:Nat)=>st.upd [(28,.pv (pI (a:Int)))] []) (fun a k=>a+k=dd.toNat∧(∀ j,j<a→∀ p,(l.take dd.toNat)[j]?=some p→p.kind=9)) 0 dd.toNat (by (conv=>whnf);first | done | rfl) ⟨by simp,by intro j hj;omega⟩ ?_
 intro m i ih hI
 rcases a3I (l.take dd.toNat) i with ⟨x,hlt,hx⟩ | hge
 ·have hrow:=K4 (f:=i4) hx
  by_cases hk:x.kind=9
  ·repeat' ((conv=>whnf);first | (with_reducible refine sC (by kernel_rfl) ?_) | ((first | (with_reducible first | refine sB ?_ | refine z7 ?_ | refine z8 ?_) | refine sP (by rfl) ?_);first | refine Or.inl ⟨by first | assumption | (simp only [nm,List.length_map,hTl,hTd];first | done | assumption | omega),?_⟩ | refine Or.inr (Or.inl ⟨by first | assumption | (simp only [nm,List.length_map,hTl,hTd];first | done | assumption | omega),?_⟩) | (refine Or.inr (Or.inr ⟨fun hsp=>?_,fun hsp=>?_⟩) <;>(try simp only [nm,List.length_map,hTl,hTd] at hsp) <;>try subst hsp)) | refine sS (e7 (by rfl) (by rfl) (by omega) hrow) ?_ | fail)
   all_goals (conv=>whnf)
   all_goals (refine ih (m - 1) (i+1) _ (by omega) ⟨by (try dsimp only);omega,?_⟩ (by (conv=>whnf);first | done | rfl | (simp (disch:=omega) only [P9])))
   all_goals (intro j hj p hp;by_cases e:j<i;(·exact hI.2 j e p hp);have e2:j=i:=(by omega);subst e2;rw [hx] at hp;cases hp;exact hk)
  ·exact absurd (h9 x (List.mem_of_getElem? hx)) hk
 ·repeat' ((conv=>whnf);first | (with_reducible refine sC (by kernel_rfl) ?_) | ((first | (with_reducible first | refine sB ?_ | refine z7 ?_ | refine z8 ?_) | refine sP (by rfl) ?_);first | refine Or.inl ⟨by first | assumption | (simp only [nm,List.length_map,hTl,hTd];first | done | assumption | omega),?_⟩ | refine Or.inr (Or.inl ⟨by first | assumption | (simp only [nm,List.length_map,hTl,hTd];first | done | assumption | omega),?_⟩) | (refine Or.inr (Or.inr ⟨fun hsp=>?_,fun hsp=>?_⟩) <;>(try simp only [nm,List.length_map,hTl,hTd] at hsp) <;>try subst hsp)) | fail)
  all_goals (conv=>whnf)
  all_goals (first | exact PV.le.refl _ | ((repeat' (first | (with_reducible exact PV.le.refl _) | exact PV.le.emp _ | exact E6.nil | (with_reducible refine p8 ?_) | (with_reducible refine o6 ?_) | (refine E6.cons ?_ ?_) | (with_reducible refine l0 ?_) | (with_reducible refine q8 ?_) | (with_reducible refine A9 ?_) | (with_reducible refine z9 ?_) | (with_reducible refine o3 ?_) | (refine A8 ?_))) <;>first | rfl | exact le_of_eq rfl))
set_option maxHeartbeats 1000000 in
theorem b0L (C:Laid P) (s:B8) (n dd:Int) (lo l:List Ob) (hop:s.ops=lo++l) (hn:(l.length:Int)=n) (hlo:lo.length+l.length≤1000000) (d0:0≤dd) (d1:dd≤n) (h9:∀ p ∈ l.take dd.toNat,p.kind=9) (k:Ob) (hk:l[dd.toNat]?=some k) (kn:k.n<9223372036854775808) (he:(n4 s.heap k).2≠0):l3 P G e6 [aS s,pI n,pI dd,.bool true] [] (.o0 [.sl 7 (List.map i4 []),aO (n4 s.heap k).1,pI (n4 s.heap k).2]):=by
 refine k8 C (Q3 C) rfl ?_
 have kT:=a9t C s n (by omega) (by rw [hop];simp;omega) (by rw [hop];simp;omega)
 rw [show s.ops.drop (s.ops.length - n.toNat)=l by rw [hop,List.length_append,show lo.length+l.length - n.toNat=lo.length by omega,List.drop_left]] at kT
 have kK:=b0K C s.heap k kn
 have hrow2:=b5T (f:=i4) hk
 repeat' ((conv=>whnf);first | (with_reducible refine sC (by kernel_rfl) ?_) | ((first | (with_reducible first | refine sB ?_ | refine z7 ?_ | refine z8 ?_) | refine sP (by rfl) ?_);first | refine oT ?_ | refine oF ?_ | (refine Or.inr (Or.inr ⟨fun hsp=>?_,fun hsp=>?_⟩) <;>(try simp only [nm,List.length_map] at hsp) <;>try subst hsp)) | refine ⟨_,_,kT,?_⟩ | refine sS (O4 (f:=i4) (l:=l) (a:=0) (h:=dd) (by rfl) (by rfl) (by rfl) (by omega) (by omega) (by omega)) ?_ | fail)
 all_goals (conv=>whnf)
 intro X hX hW
 have hTl:(l.take dd.toNat).length=dd.toNat:=by rw [List.length_take];omega
 have hTd:List.drop (0:Int).toNat (l.take dd.toNat)=l.take dd.toNat:=rfl
 refine a3T hX (fun st (a:Nat)=>st.upd [(28,.pv (pI (a:Int)))] []) (fun a k=>a+k=dd.toNat∧(∀ j,j<a→∀ p,(l.take dd.toNat)[j]?=some p→p.kind=9)) 0 dd.toNat (by (conv=>whnf);first | done | rfl) ⟨by simp,by intro j hj;omega⟩ ?_
 intro m i ih hI
 rcases a3I (l.take dd.toNat) i with ⟨x,hlt,hx⟩ | hge
 ·have hrow:=K4 (f:=i4) hx
  by_cases hk:x.kind=9
  ·repeat' ((conv=>whnf);first | (with_reducible refine sC (by kernel_rfl) ?_) | ((first | (with_reducible first | refine sB ?_ | refine z7 ?_ | refine z8 ?_) | refine sP (by rfl) ?_);first | refine Or.inl ⟨by first | assumption | (simp only [nm,List.length_map,hTl,hTd];first | done | assumption | omega),?_⟩ | refine Or.inr (Or.inl ⟨by first | assumption | (simp only [nm,List.length_map,hTl,hTd];first | done | assumption | omega),?_⟩) | (refine Or.inr (Or.inr ⟨fun hsp=>?_,fun hsp=>?_⟩) <;>(try simp only [nm,List.length_map,hTl,hTd] at hsp) <;>try subst hsp)) | refine sS (e7 (by rfl) (by rfl) (by omega) hrow) ?_ | fail)
   all_goals (conv=>whnf)
   all_goals (refine ih (m - 1) (i+1) _ (by omega) ⟨by (try dsimp only);omega,?_⟩ (by (conv=>whnf);first | done | rfl | (simp (disch:=omega) only [P9])))
   all_goals (intro j hj p hp;by_cases e:j<i;(·exact hI.2 j e p hp);have e2:j=i:=(by omega);subst e2;rw [hx] at hp;cases hp;exact hk)
  ·exact absurd (h9 x (List.mem_of_getElem? hx)) hk
 ·repeat' ((conv=>whnf);first | (with_reducible refine sC (by kernel_rfl) ?_) | ((first | (with_reducible first | refine sB ?_ | refine z7 ?_ | refine z8 ?_) | refine sP (by rfl) ?_);first | refine Or.inl ⟨by first | assumption | (simp only [nm,List.length_map,hTl,hTd];first | done | assumption | omega),?_⟩ | refine Or.inr (Or.inl ⟨by first | assumption | (simp only [nm,List.length_map,hTl,hTd];first | done | assumption | omega),?_⟩) | (refine Or.inr (Or.inr ⟨fun hsp=>?_,fun hsp=>?_⟩) <;>(try simp only [nm,List.length_map,hTl,hTd] at hsp) <;>try subst hsp)) | refine ⟨_,_,kK,?_⟩ | refine sS (e7 (by rfl) (by rfl) (by omega) hrow2) ?_ | fail)
  all_goals (conv=>whnf)
  all_goals (first | exact PV.le.refl _ | ((repeat' (first | (with_reducible exact PV.le.refl _) | exact PV.le.emp _ | exact E6.nil | (with_reducible refine p8 ?_) | (with_reducible refine o6 ?_) | (refine E6.cons ?_ ?_) | (with_reducible refine l0 ?_) | (with_reducible refine q8 ?_) | (with_reducible refine A9 ?_) | (with_reducible refine z9 ?_) | (with_reducible refine o3 ?_) | (refine A8 ?_))) <;>first | rfl | exact le_of_eq rfl))
set_option maxHeartbeats 1000000 in
theorem a5a (C:Laid P) (s:B8) (n dd:Int) (lo l:List Ob) (hop:s.ops=lo++l) (hn:(l.length:Int)=n) (hlo:lo.length+l.length≤1000000) (d0:0≤dd) (d1:dd≤n) (h9:∀ p ∈ l.take dd.toNat,p.kind=9) (k:Ob) (hk:l[dd.toNat]?=some k) (kn:k.n<9223372036854775808) (he:(n4 s.heap k).2=0):l3 P G e6 [aS s,pI n,pI dd,.bool true] [] (.o0 [.sl 7 (List.map i4 l),aO (n4 s.heap k).1,pI 0]):=by
 refine k8 C (Q3 C) rfl ?_
 have kT:=a9t C s n (by omega) (by rw [hop];simp;omega) (by rw [hop];simp;omega)
 rw [show s.ops.drop (s.ops.length - n.toNat)=l by rw [hop,List.length_append,show lo.length+l.length - n.toNat=lo.length by omega,List.drop_left]] at kT
 have kK:=b0K C s.heap k kn
 have hrow2:=b5T (f:=i4) hk
 rw [he] at kK
 repeat' ((conv=>whnf);first | (with_reducible refine sC (by kernel_rfl) ?_) | ((first | (with_reducible first | refine sB ?_ | refine z7 ?_ | refine z8 ?_) | refine sP (by rfl) ?_);first | refine oT ?_ | refine oF ?_ | (refine Or.inr (Or.inr ⟨fun hsp=>?_,fun hsp=>?_⟩) <;>(try simp only [nm,List.length_map] at hsp) <;>try subst hsp)) | refine ⟨_,_,kT,?_⟩ | refine sS (O4 (f:=i4) (l:=l) (a:=0) (h:=dd) (by rfl) (by rfl) (by rfl) (by omega) (by omega) (by omega)) ?_ | fail)
 all_goals (conv=>whnf)
 intro X hX hW
 have hTl:(l.take dd.toNat).length=dd.toNat:=by rw [List.length_take];omega
 have hTd:List.drop (0:Int).toNat (l.take dd.toNat)=l.take dd.toNat:=rfl
 refine a3T hX (fun st (a:Nat)=>st.upd [(28,.pv (pI (a:Int)))] []) (fun a k=>a+k=dd.toNat∧(∀ j,j<a→∀ p,(l.take dd.toNat)[j]?=some p→p.kind=9)) 0 dd.toNat (by (conv=>whnf);first | done | rfl) ⟨by simp,by intro j hj;omega⟩ ?_
 intro m i ih hI
 rcases a3I (l.take dd.toNat) i with ⟨x,hlt,hx⟩ | hge
 ·have hrow:=K4 (f:=i4) hx
  by_cases hk:x.kind=9
  ·repeat' ((conv=>whnf);first | (with_reducible refine sC (by kernel_rfl) ?_) | ((first | (with_reducible first | refine sB ?_ | refine z7 ?_ | refine z8 ?_) | refine sP (by rfl) ?_);first | refine Or.inl ⟨by first | assumption | (simp only [nm,List.length_map,hTl,hTd];first | done | assumption | omega),?_⟩ | refine Or.inr (Or.inl ⟨by first | assumption | (simp only [nm,List.length_map,hTl,hTd];first | done | assumption | omega),?_⟩) | (refine Or.inr (Or.inr ⟨fun hsp=>?_,fun hsp=>?_⟩) <;>(try simp only [nm,List.length_map,hTl,hTd] at hsp) <;>try subst hsp)) | refine sS (e7 (by rfl) (by rfl) (by omega) hrow) ?_ | fail)
   all_goals (conv=>whnf)
   all_goals (refine ih (m - 1) (i+1) _ (by omega) ⟨by (try dsimp only);omega,?_⟩ (by (conv=>whnf);first | done | rfl | (simp (disch:=omega) only [P9])))
   all_goals (intro j hj p hp;by_cases e:j<i;(·exact hI.2 j e p hp);have e2:j=i:=(by omega);subst e2;rw [hx] at hp;cases hp;exact hk)
  ·exact absurd (h9 x (List.mem_of_getElem? hx)) hk
 ·repeat' ((conv=>whnf);first | (with_reducible refine sC (by kernel_rfl) ?_) | ((first | (with_reducible first | refine sB ?_ | refine z7 ?_ | refine z8 ?_) | refine sP (by rfl) ?_);first | refine Or.inl ⟨by first | assumption | (simp only [nm,List.length_map,hTl,hTd];first | done | assumption | omega),?_⟩ | refine Or.inr (Or.inl ⟨by first | assumption | (simp only [nm,List.length_map,hTl,hTd];first | done | assumption | omega),?_⟩) | (refine Or.inr (Or.inr ⟨fun hsp=>?_,fun hsp=>?_⟩) <;>(try simp only [nm,List.length_map,hTl,hTd] at hsp) <;>try subst hsp)) | refine ⟨_,_,kK,?_⟩ | refine sS (e7 (by rfl) (by rfl) (by omega) hrow2) ?_ | fail)
  all_goals (conv=>whnf)
  all_goals (first | exact PV.le.refl _ | ((repeat' (first | (with_reducible exact PV.le.refl _) | exact PV.le.emp _ | exact E6.nil | (with_reducible refine p8 ?_) | (with_reducible refine o6 ?_) | (refine E6.cons ?_ ?_) | (with_reducible refine l0 ?_) | (with_reducible refine q8 ?_) | (with_reducible refine A9 ?_) | (with_reducible refine z9 ?_) | (with_reducible refine o3 ?_) | (refine A8 ?_))) <;>first | rfl | exact le_of_eq rfl))
set_option maxHeartbeats 1000000 in
theorem b8N (C:Laid P) (s:B8) (n:Int) (h:List Cl) (out:List Ob) (h0:0≤n) (h1:n≤s.ops.length) (h2:s.ops.length≤1000000) (h3:s.ops.length - n+out.length≤100):l3 P G g8 [aS s,pI n,.sl 7 (List.map j8 h),.sl 7 (List.map i4 out)] [] (.o0 [aS {s with ops:=s.ops.take (s.ops.length - n.toNat)++out,heap:=h},pI 0]):=by
 refine k8 C (a3Q C) rfl ?_
 repeat' ((conv=>whnf);first | (with_reducible refine sC (by kernel_rfl) ?_) | ((first | (with_reducible first | refine sB ?_ | refine z7 ?_ | refine z8 ?_) | refine sP (by rfl) ?_);first | refine oT ?_ | refine oF ?_ | (refine Or.inr (Or.inr ⟨fun hsp=>?_,fun hsp=>?_⟩) <;>(try simp only [nm] at hsp) <;>try subst hsp)) | refine ⟨_,_,b1e C _ _ _ _ _ _ _ _ _ _ _ _ _ _ _ _ _ _ _ _ _ _ _ _ _ _ _ _ _ _ _ _ _ _ _ _ _ _ _ _ _ _ _ _ _ _ _ _ _ _ _ _ _ _ _ _ _ _ _ _ _ _ _ _ _ _ _ _ (by omega) (by omega) (by omega),?_⟩ | refine ⟨_,_,b1f C _ _ _ _ _ _ _ _ _ _ _ _ _ _ _ _ _ _ _ _ _ _ _ _ _ _ _ _ _ _ _ _ _ _ _ _ _ _ _ _ _ _ _ _ _ _ _ _ _ _ _ _ _ _ _ _ _ _ _ _ _ _ _ _ _ _ _ out (by simp only [List.length_take];omega),?_⟩ | fail)
 all_goals (conv=>whnf)
 all_goals (first | exact PV.le.refl _ | ((repeat' (first | (with_reducible exact PV.le.refl _) | exact PV.le.emp _ | exact E6.nil | (with_reducible refine p8 ?_) | (with_reducible refine o6 ?_) | (refine E6.cons ?_ ?_) | (with_reducible refine l0 ?_) | (with_reducible refine q8 ?_) | (with_reducible refine A9 ?_) | (with_reducible refine z9 ?_) | (with_reducible refine o3 ?_) | (refine A8 ?_))) <;>first | rfl | exact le_of_eq rfl))
end Go.Ab.Td

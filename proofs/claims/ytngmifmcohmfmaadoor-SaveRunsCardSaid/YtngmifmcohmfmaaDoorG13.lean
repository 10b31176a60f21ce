/- A part of the proof: the texts TdKi, TdRA, TdRB, TdRC, TdRD, TdRE, TdRF, TdRG, TdRH, TdRI. Under: nothing. -/
import Derived.Test.YtngmifmcohmfmaaDoorG12
import Derived.Test.YtngmifmcohmfmaaDoorG08
import Derived.Test.YtngmifmcohmfmaaDoorG05
import Derived.Test.YtngmifmcohmfmaaDoorG09
namespace Go.Ab.Td
set_option maxRecDepth 100000
set_option maxRecDepth 100000
open Go Go.Ab
variable {P:Program}
set_option linter.unusedSimpArgs false
attribute [local irreducible] f0
def b5m (h:List Cl) (c:Cl):Prop:=a0B c∧b4o c∧a5P h c
theorem b6p {h:List Cl} (ht:¬ o0 0 h>20000) {c:Cl} (hc:c ∈ h) (hb:¬ b5m h c):b3Z h=210:=by
 unfold b3Z
 rw [if_neg ht,if_neg (fun hp=>hb (hp c hc))]
set_option maxHeartbeats 4000000 in
theorem b4p (C:Laid P) (h:List Cl) (hs:small h) (hn:∀ c ∈ h,∀ l ∈ a3H c,∀ o ∈ l,o.n<9223372036854775808):j7 P G J8 [.sl 7 (List.map j9 h)] [] (pI (b3Z h)):=by
 refine i5 C (a8X C) rfl ?_
 have hl:h.length<2 ^ 62:=by have:=hs.1;omega
 by_cases ht:o0 0 h>20000
 ·have e:b3Z h=210:=by unfold b3Z;rw [if_pos ht]
  rw [e]
  repeat' ((conv=>whnf);first | (with_reducible refine sC (by kernel_rfl) ?_) | ((first | (with_reducible first | refine sB ?_ | refine o8 ?_ | refine o7 ?_) | refine sP (by rfl) ?_);first | refine oT ?_ | refine oF ?_ | (refine Or.inr (Or.inr ⟨fun hsp=>?_,fun hsp=>?_⟩) <;>(try simp only [nm,List.length_map] at hsp) <;>try subst hsp)) | refine ⟨_,_,a1S C h hl,?_⟩ | fail)
  all_goals (conv=>whnf)
  all_goals exact PV.le.refl _
 ·repeat' ((conv=>whnf);first | (with_reducible refine sC (by kernel_rfl) ?_) | ((first | (with_reducible first | refine sB ?_ | refine o8 ?_ | refine o7 ?_) | refine sP (by rfl) ?_);first | refine oT ?_ | refine oF ?_ | (refine Or.inr (Or.inr ⟨fun hsp=>?_,fun hsp=>?_⟩) <;>(try simp only [nm,List.length_map] at hsp) <;>try subst hsp)) | refine ⟨_,_,a1S C h hl,?_⟩ | fail)
  all_goals (conv=>whnf)
  intro X hX hW
  refine a2x hX (fun st (i:Nat)=>st.upd [(16,.pv (pI (i:Int)))] []) (fun i k=>i+k=h.length∧∀ j,j<i→∀ c,h[j]?=some c→b5m h c) 0 h.length (by (conv=>whnf);first | done | rfl) ⟨by simp,by intro j hj;omega⟩ ?_
  intro m i ih hI
  rcases a0E h i with ⟨x,hlt,hx⟩ | hge
  ·have hrow:=y2 (f:=j9) hx
   have hm:=List.mem_of_getElem? hx
   have kB:=a8M C h x (hs.2 x hm)
   have kL:=a6C C h x
   have kK:=a7E C h x (hs.2 x hm) (hn x hm)
   by_cases hb:a0B x
   ·rw [show tt (a0B x)=true from S7.mpr hb] at kB
    by_cases hli:b4o x
    ·rw [show tt (b4o x)=true from S7.mpr hli] at kL
     by_cases hk:a5P h x
     ·rw [show tt (a5P h x)=true from S7.mpr hk] at kK
      repeat' ((conv=>whnf);first | (with_reducible refine sC (by kernel_rfl) ?_) | ((first | (with_reducible first | refine sB ?_ | refine o8 ?_ | refine o7 ?_) | refine sP (by rfl) ?_);first | refine oT ?_ | refine oF ?_ | (refine Or.inr (Or.inr ⟨fun hsp=>?_,fun hsp=>?_⟩) <;>(try simp only [nm,List.length_map] at hsp) <;>try subst hsp)) | refine ⟨_,_,kB,?_⟩ | refine ⟨_,_,kL,?_⟩ | refine ⟨_,_,kK,?_⟩ | (intro Y hY hWY) | refine hY _ ?_ | refine sS (e7 (by rfl) (by rfl) (by omega) hrow) ?_ | fail)
      all_goals (conv=>whnf)
      all_goals (refine ih (m - 1) (i+1) _ (by omega) ⟨by (try dsimp only);omega,?_⟩ (by (conv=>whnf);first | done | rfl | (simp (disch:=omega) only [p9])))
      all_goals (intro j hj c hc;by_cases e:j<i;(·exact hI.2 j e c hc);have e2:j=i:=(by omega);subst e2;rw [hx] at hc;cases hc;exact ⟨hb,hli,hk⟩)
     ·rw [show tt (a5P h x)=false from G6.mpr hk] at kK
      rw [b6p ht hm (fun hp=>hk hp.2.2)]
      repeat' ((conv=>whnf);first | (with_reducible refine sC (by kernel_rfl) ?_) | ((first | (with_reducible first | refine sB ?_ | refine o8 ?_ | refine o7 ?_) | refine sP (by rfl) ?_);first | refine oT ?_ | refine oF ?_ | (refine Or.inr (Or.inr ⟨fun hsp=>?_,fun hsp=>?_⟩) <;>(try simp only [nm,List.length_map] at hsp) <;>try subst hsp)) | refine ⟨_,_,kB,?_⟩ | refine ⟨_,_,kL,?_⟩ | refine ⟨_,_,kK,?_⟩ | (intro Y hY hWY) | refine hY _ ?_ | refine sS (e7 (by rfl) (by rfl) (by omega) hrow) ?_ | fail)
      all_goals (conv=>whnf)
      all_goals exact PV.le.refl _
    ·rw [show tt (b4o x)=false from G6.mpr hli] at kL
     rw [b6p ht hm (fun hp=>hli hp.2.1)]
     repeat' ((conv=>whnf);first | (with_reducible refine sC (by kernel_rfl) ?_) | ((first | (with_reducible first | refine sB ?_ | refine o8 ?_ | refine o7 ?_) | refine sP (by rfl) ?_);first | refine oT ?_ | refine oF ?_ | (refine Or.inr (Or.inr ⟨fun hsp=>?_,fun hsp=>?_⟩) <;>(try simp only [nm,List.length_map] at hsp) <;>try subst hsp)) | refine ⟨_,_,kB,?_⟩ | refine ⟨_,_,kL,?_⟩ | refine ⟨_,_,kK,?_⟩ | (intro Y hY hWY) | refine hY _ ?_ | refine sS (e7 (by rfl) (by rfl) (by omega) hrow) ?_ | fail)
     all_goals (conv=>whnf)
     all_goals exact PV.le.refl _
   ·rw [show tt (a0B x)=false from G6.mpr hb] at kB
    rw [b6p ht hm (fun hp=>hb hp.1)]
    repeat' ((conv=>whnf);first | (with_reducible refine sC (by kernel_rfl) ?_) | ((first | (with_reducible first | refine sB ?_ | refine o8 ?_ | refine o7 ?_) | refine sP (by rfl) ?_);first | refine oT ?_ | refine oF ?_ | (refine Or.inr (Or.inr ⟨fun hsp=>?_,fun hsp=>?_⟩) <;>(try simp only [nm,List.length_map] at hsp) <;>try subst hsp)) | refine ⟨_,_,kB,?_⟩ | refine ⟨_,_,kL,?_⟩ | refine ⟨_,_,kK,?_⟩ | (intro Y hY hWY) | refine hY _ ?_ | refine sS (e7 (by rfl) (by rfl) (by omega) hrow) ?_ | fail)
    all_goals (conv=>whnf)
    all_goals exact PV.le.refl _
  ·have e:b3Z h=0:=by
    unfold b3Z
    rw [if_neg ht,if_pos]
    intro c hc
    obtain ⟨q,hq⟩:=List.getElem?_of_mem hc
    exact hI.2 q (by have:=(List.getElem?_eq_some_iff.1 hq).1;omega) c hq
   rw [e]
   repeat' ((conv=>whnf);first | (with_reducible refine sC (by kernel_rfl) ?_) | ((first | (with_reducible first | refine sB ?_ | refine o8 ?_ | refine o7 ?_) | refine sP (by rfl) ?_);first | refine oT ?_ | refine oF ?_ | (refine Or.inr (Or.inr ⟨fun hsp=>?_,fun hsp=>?_⟩) <;>(try simp only [nm,List.length_map] at hsp) <;>try subst hsp)) | fail)
   all_goals (conv=>whnf)
   all_goals exact PV.le.refl _
end Go.Ab.Td
namespace Go.Ab.Td
set_option maxRecDepth 100000
set_option maxRecDepth 100000
open Go Go.Ab
variable {P:Program}
set_option linter.unusedSimpArgs false
attribute [local irreducible] f0
set_option maxHeartbeats 1000000 in
theorem a9N (C:Laid P) (n:Int):j7 P G a0r [pI n] [] (aO ⟨3,false,n,[],0,0,0⟩):=by
 refine i5 C (b6F C) rfl ?_
 repeat' ((conv=>whnf);first | (with_reducible refine sC (by kernel_rfl) ?_) | ((with_reducible refine sB ?_);first | refine oT ?_ | refine oF ?_ | (refine Or.inr (Or.inr ⟨fun hsp=>?_,fun hsp=>?_⟩) <;>(try simp only [nm] at hsp) <;>try subst hsp)) | ((with_reducible refine o8 ?_);first | refine oT ?_ | refine oF ?_ | (refine Or.inr (Or.inr ⟨fun hsp=>?_,fun hsp=>?_⟩) <;>(try simp only [nm] at hsp) <;>try subst hsp)) | ((with_reducible refine o7 ?_);first | refine oT ?_ | refine oF ?_ | (refine Or.inr (Or.inr ⟨fun hsp=>?_,fun hsp=>?_⟩) <;>(try simp only [nm] at hsp) <;>try subst hsp)) | ((refine sP (by rfl) ?_);first | refine oT ?_ | refine oF ?_ | (refine Or.inr (Or.inr ⟨fun hsp=>?_,fun hsp=>?_⟩) <;>(try simp only [nm] at hsp) <;>try subst hsp)) | fail)
 all_goals (conv=>whnf)
 all_goals (exact PV.le.refl _)
end Go.Ab.Td
namespace Go.Ab.Td
set_option maxRecDepth 100000
set_option maxRecDepth 100000
open Go Go.Ab
variable {P:Program}
set_option linter.unusedSimpArgs false
attribute [local irreducible] f0
set_option maxHeartbeats 1000000 in
theorem a1P (C:Laid P) (h:List Cl) (n:Int) (c:Cl) (h0:0≤n) (h1:n<h.length) (hl:h.length≤1000000):j7 P G J5 [.sl 7 (List.map j9 h),pI n,aC c] [] (.sl 7 (List.map j9 (h.set n.toNat c))):=by
 refine i5 C (b5R C) rfl ?_
 repeat' ((conv=>whnf);first | (with_reducible refine sC (by kernel_rfl) ?_) | ((with_reducible refine sB ?_);first | refine oT ?_ | refine oF ?_ | (refine Or.inr (Or.inr ⟨fun hsp=>?_,fun hsp=>?_⟩) <;>(try simp only [nm] at hsp) <;>try subst hsp)) | ((with_reducible refine o8 ?_);first | refine oT ?_ | refine oF ?_ | (refine Or.inr (Or.inr ⟨fun hsp=>?_,fun hsp=>?_⟩) <;>(try simp only [nm] at hsp) <;>try subst hsp)) | ((with_reducible refine o7 ?_);first | refine oT ?_ | refine oF ?_ | (refine Or.inr (Or.inr ⟨fun hsp=>?_,fun hsp=>?_⟩) <;>(try simp only [nm] at hsp) <;>try subst hsp)) | ((refine sP (by rfl) ?_);first | refine oT ?_ | refine oF ?_ | (refine Or.inr (Or.inr ⟨fun hsp=>?_,fun hsp=>?_⟩) <;>(try simp only [nm] at hsp) <;>try subst hsp)) | refine sS (J4 (by rfl) (by first | exact e8 | exact d8 | exact d9 (by rfl) (by rfl)) (by rfl) (by (try simp only [ln]);omega)) ?_ | refine sS (J4 (f:=i6) (x':=[⟨_,_,_,_,_,_,_⟩]) (by rfl) (by first | exact e8 | exact d8 | exact d9 (by rfl) (by rfl)) (by rfl) (by (try simp only [ln]);omega)) ?_ | refine sS (J4 (f:=j9) (x':=[⟨_,_,_,_,_,_,_⟩]) (by rfl) (by first | exact e8 | exact d8 | exact d9 (by rfl) (by rfl)) (by rfl) (by (try simp only [ln]);omega)) ?_ | refine sS (m6 (by rfl) (by rfl) (by (try simp only [ln]);omega) (by first | exact e8 | exact d8 | exact d9 (by rfl) (by rfl)) (by rfl) (by (try simp only [ln]);omega)) ?_ | refine sS (m6 (f:=i6) (x':=[⟨_,_,_,_,_,_,_⟩]) (by rfl) (by rfl) (by (try simp only [ln]);omega) (by first | exact e8 | exact d8 | exact d9 (by rfl) (by rfl)) (by rfl) (by (try simp only [ln]);omega)) ?_ | refine sS (m6 (f:=j9) (x':=[⟨_,_,_,_,_,_,_⟩]) (by rfl) (by rfl) (by (try simp only [ln]);omega) (by first | exact e8 | exact d8 | exact d9 (by rfl) (by rfl)) (by rfl) (by (try simp only [ln]);omega)) ?_ | refine sS (n9 (by rfl) (by first | exact e8 | exact d8 | exact d9 (by rfl) (by rfl)) (by rfl) (by (try simp only [ln]);omega)) ?_ | refine sS (n9 (f:=i6) (x':=[⟨_,_,_,_,_,_,_⟩]) (by rfl) (by first | exact e8 | exact d8 | exact d9 (by rfl) (by rfl)) (by rfl) (by (try simp only [ln]);omega)) ?_ | refine sS (n9 (f:=j9) (x':=[⟨_,_,_,_,_,_,_⟩]) (by rfl) (by first | exact e8 | exact d8 | exact d9 (by rfl) (by rfl)) (by rfl) (by (try simp only [ln]);omega)) ?_ | refine sS (a4N (by rfl) (by rfl) (by rfl) (by rfl) (by (try simp only [ln]);omega) (by (try simp only [ln]);omega) (by first | rfl | ((try simp only [ln]);omega)) (by (try simp only [ln]);omega)) ?_ | refine sS (Z0 (by rfl) (by rfl) (by rfl) (by (try simp only [ln]);omega) (by (try simp only [ln]);omega) (by (try simp only [ln]);omega)) ?_ | refine sS (a9g (by rfl) (by rfl) (by rfl) (by (try simp only [ln]);omega) (by (try simp only [ln]);omega) (by (try simp only [ln]);omega)) ?_ | refine sS (a3g (by rfl) (by rfl) (by rfl) (by (try simp only [ln]);omega) (by (try simp only [ln]);omega) (by (try simp only [ln]);omega)) ?_ | refine sS (e7 (by rfl) (by rfl) (by omega) (a0l (d:=cl0) (by omega) (by omega))) ?_ | refine sS (e7 (by rfl) (by rfl) (by omega) (a0l (d:=ob0) (by omega) (by omega))) ?_ | refine sS (a3k (by rfl) (by rfl) (by omega)) ?_ | refine sS (a8x (by rfl) (by rfl) (by omega)) ?_ | refine sS (b5S (by rfl) (by rfl) (by rfl) (by omega) (by first | omega | (simp only [List.length_map];omega))) ?_ | refine sS (b6t (c:=c) (by rfl) (by rfl) (by omega) (fun _=>rfl) (by rfl) (by rfl) (by rfl)) ?_ | fail)
 all_goals (conv=>whnf)
 all_goals (refine r9 ?_;simp;exact List.take_of_length_le (by simp))
theorem a6t (C:Laid P) (h:List Cl) (n:Int) (c_k:Int) (c_b:List UInt8) (c_i:List Ob) (c_ks:List Ob) (c_vs:List Ob) (c_m:Int) (c_a:Int) (h0:0≤n) (h1:n<h.length) (hl:h.length≤1000000):j7 P G J5 [.sl 7 (List.map j9 h),pI n,.agg [.int .i64 c_k,.str c_b,.sl 7 (List.map i6 c_i),.sl 7 (List.map i6 c_ks),.sl 7 (List.map i6 c_vs),.int .i64 c_m,.int .i64 c_a]] [] (.sl 7 (List.map j9 (h.set n.toNat (⟨c_k,c_b,c_i,c_ks,c_vs,c_m,c_a⟩:Cl)))):=a1P C h n (⟨c_k,c_b,c_i,c_ks,c_vs,c_m,c_a⟩:Cl) h0 h1 hl
set_option maxHeartbeats 1000000 in
theorem a7L (C:Laid P) (h:List Cl) (d k v:Ob) (h0:0≤d.ref) (h1:d.ref<h.length) (hs:small h) (hp:a2B (cellAt h d) k v=none):j7 P G X7 [.sl 7 (List.map j9 h),aO d,aO k,aO v] [] (.x8 [.sl 7 (List.map j9 []),.bool false]):=by
 refine i5 C (a8b C) rfl ?_
 have hsm:=a9u hs d
 obtain ⟨hm1,hm2,hm3,hm4⟩:=hsm
 have hl:=b2G (cellAt h d) k v
 have hcl:((h[d.ref.toNat]?).getD cl0)=cellAt h d:=rfl
 obtain ⟨hs1,hs2⟩:=hs
 repeat' ((conv=>whnf);first | (with_reducible refine sC (by kernel_rfl) ?_) | ((with_reducible refine sB ?_);first | refine Or.inl ⟨by first | assumption | (simp only [nm,List.length_map,hcl];first | done | assumption | omega),?_⟩ | refine Or.inr (Or.inl ⟨by first | assumption | (simp only [nm,List.length_map,hcl];first | done | assumption | omega),?_⟩) | (refine Or.inr (Or.inr ⟨fun hsp=>?_,fun hsp=>?_⟩) <;>(try simp only [nm,List.length_map,hcl] at hsp) <;>try subst hsp)) | ((with_reducible refine o8 ?_);first | refine Or.inl ⟨by first | assumption | (simp only [nm,List.length_map,hcl];first | done | assumption | omega),?_⟩ | refine Or.inr (Or.inl ⟨by first | assumption | (simp only [nm,List.length_map,hcl];first | done | assumption | omega),?_⟩) | (refine Or.inr (Or.inr ⟨fun hsp=>?_,fun hsp=>?_⟩) <;>(try simp only [nm,List.length_map,hcl] at hsp) <;>try subst hsp)) | ((with_reducible refine o7 ?_);first | refine Or.inl ⟨by first | assumption | (simp only [nm,List.length_map,hcl];first | done | assumption | omega),?_⟩ | refine Or.inr (Or.inl ⟨by first | assumption | (simp only [nm,List.length_map,hcl];first | done | assumption | omega),?_⟩) | (refine Or.inr (Or.inr ⟨fun hsp=>?_,fun hsp=>?_⟩) <;>(try simp only [nm,List.length_map,hcl] at hsp) <;>try subst hsp)) | ((refine sP (by rfl) ?_);first | refine Or.inl ⟨by first | assumption | (simp only [nm,List.length_map,hcl];first | done | assumption | omega),?_⟩ | refine Or.inr (Or.inl ⟨by first | assumption | (simp only [nm,List.length_map,hcl];first | done | assumption | omega),?_⟩) | (refine Or.inr (Or.inr ⟨fun hsp=>?_,fun hsp=>?_⟩) <;>(try simp only [nm,List.length_map,hcl] at hsp) <;>try subst hsp)) | refine ⟨_,_,a7n C (cellAt h d).keys k (by omega),?_⟩ | refine ⟨_,_,a6t C _ _ _ _ _ _ _ _ _ (by omega) (by omega) (by omega),?_⟩ | refine sS (n9 (x':=(cellAt h d).keys) (f:=i6) (by rfl) (by first | exact e8 | exact d8 | exact d9 (by rfl) (by rfl)) (by rfl) (by omega)) ?_ | refine sS (n9 (x':=(cellAt h d).w7) (f:=i6) (by rfl) (by first | exact e8 | exact d8 | exact d9 (by rfl) (by rfl)) (by rfl) (by omega)) ?_ | refine sS (m6 (l:=(cellAt h d).keys) (f:=i6) (x':=[k]) (by rfl) (by rfl) (by omega) (by first | exact e8 | exact d8 | exact d9 (by rfl) (by rfl)) (by rfl) (by simp only [List.length_cons,List.length_nil];omega)) ?_ | refine sS (m6 (l:=(cellAt h d).w7) (f:=i6) (x':=[v]) (by rfl) (by rfl) (by omega) (by first | exact e8 | exact d8 | exact d9 (by rfl) (by rfl)) (by rfl) (by simp only [List.length_cons,List.length_nil];omega)) ?_ | refine sS (e7 (by rfl) (by rfl) (by omega) (a0l (d:=cl0) (by omega) (by omega))) ?_ | refine sS (b5S (by rfl) (by rfl) (by rfl) (by omega) (by first | omega | (simp only [List.length_map];omega))) ?_ | refine sS (b6t (l:=(cellAt h d).w7) (c:=v) (by rfl) (by rfl) (by omega) (fun _=>rfl) (by rfl) (by rfl) (by rfl)) ?_ | fail)
 all_goals (conv=>whnf)
 all_goals (first | ((repeat' (first | (with_reducible exact PV.le.refl _) | exact PV.le.emp _ | exact H8.nil | (with_reducible refine v3 ?_) | (with_reducible refine o6 ?_) | (refine H8.cons ?_ ?_) | (with_reducible refine k7 ?_) | (with_reducible refine w8 ?_) | (with_reducible refine z6 ?_) | (with_reducible refine x6 ?_) | (with_reducible refine r9 ?_) | (refine z9 ?_))) <;>first | rfl | exact PV.le.refl _) | (exfalso;rw [hl.1 (by omega) (by omega)] at hp;cases hp) | (exfalso;rw [hl.2.2 (by omega) (by omega)] at hp;cases hp))
end Go.Ab.Td
namespace Go.Ab.Td
set_option maxRecDepth 100000
set_option maxRecDepth 100000
open Go Go.Ab
variable {P:Program}
set_option linter.unusedSimpArgs false
attribute [local irreducible] f0
theorem a1R {α:Type} {f:α→List PV} {l:List α} {n:Nat} (h:l.length=n):List.take n (List.drop 0 (List.map f l))=List.map f l:=by
 subst h
 rw [List.drop_zero,List.take_of_length_le (by simp)]
set_option maxHeartbeats 1000000 in
theorem b3x (C:Laid P) (h:List Cl) (d k v:Ob) (c:Cl) (h0:0≤d.ref) (h1:d.ref<h.length) (hs:small h) (hp:a2B (cellAt h d) k v=some c):j7 P G X7 [.sl 7 (List.map j9 h),aO d,aO k,aO v] [] (.x8 [.sl 7 (List.map j9 (h.set d.ref.toNat c)),.bool true]):=by
 refine i5 C (a8b C) rfl ?_
 have hsm:=a9u hs d
 obtain ⟨hm1,hm2,hm3,hm4⟩:=hsm
 have hl:=b2G (cellAt h d) k v
 have hcl:((h[d.ref.toNat]?).getD cl0)=cellAt h d:=rfl
 obtain ⟨hs1,hs2⟩:=hs
 repeat' ((conv=>whnf);first | (with_reducible refine sC (by kernel_rfl) ?_) | ((with_reducible refine sB ?_);first | refine Or.inl ⟨by first | assumption | (simp only [nm,List.length_map,hcl];first | done | assumption | omega),?_⟩ | refine Or.inr (Or.inl ⟨by first | assumption | (simp only [nm,List.length_map,hcl];first | done | assumption | omega),?_⟩) | (refine Or.inr (Or.inr ⟨fun hsp=>?_,fun hsp=>?_⟩) <;>(try simp only [nm,List.length_map,hcl] at hsp) <;>try subst hsp)) | ((with_reducible refine o8 ?_);first | refine Or.inl ⟨by first | assumption | (simp only [nm,List.length_map,hcl];first | done | assumption | omega),?_⟩ | refine Or.inr (Or.inl ⟨by first | assumption | (simp only [nm,List.length_map,hcl];first | done | assumption | omega),?_⟩) | (refine Or.inr (Or.inr ⟨fun hsp=>?_,fun hsp=>?_⟩) <;>(try simp only [nm,List.length_map,hcl] at hsp) <;>try subst hsp)) | ((with_reducible refine o7 ?_);first | refine Or.inl ⟨by first | assumption | (simp only [nm,List.length_map,hcl];first | done | assumption | omega),?_⟩ | refine Or.inr (Or.inl ⟨by first | assumption | (simp only [nm,List.length_map,hcl];first | done | assumption | omega),?_⟩) | (refine Or.inr (Or.inr ⟨fun hsp=>?_,fun hsp=>?_⟩) <;>(try simp only [nm,List.length_map,hcl] at hsp) <;>try subst hsp)) | ((refine sP (by rfl) ?_);first | refine Or.inl ⟨by first | assumption | (simp only [nm,List.length_map,hcl];first | done | assumption | omega),?_⟩ | refine Or.inr (Or.inl ⟨by first | assumption | (simp only [nm,List.length_map,hcl];first | done | assumption | omega),?_⟩) | (refine Or.inr (Or.inr ⟨fun hsp=>?_,fun hsp=>?_⟩) <;>(try simp only [nm,List.length_map,hcl] at hsp) <;>try subst hsp)) | refine ⟨_,_,a7n C (cellAt h d).keys k (by omega),?_⟩ | refine ⟨_,_,a6t C _ _ _ _ _ _ _ _ _ (by omega) (by omega) (by omega),?_⟩ | refine sS (n9 (x':=(cellAt h d).keys) (f:=i6) (by rfl) (by first | exact e8 | exact d8 | exact d9 (by rfl) (by rfl)) (by rfl) (by omega)) ?_ | refine sS (n9 (x':=(cellAt h d).w7) (f:=i6) (by rfl) (by first | exact e8 | exact d8 | exact d9 (by rfl) (by rfl)) (by rfl) (by omega)) ?_ | refine sS (m6 (l:=(cellAt h d).keys) (f:=i6) (x':=[k]) (by rfl) (by rfl) (by omega) (by first | exact e8 | exact d8 | exact d9 (by rfl) (by rfl)) (by rfl) (by simp only [List.length_cons,List.length_nil];omega)) ?_ | refine sS (m6 (l:=(cellAt h d).w7) (f:=i6) (x':=[v]) (by rfl) (by rfl) (by omega) (by first | exact e8 | exact d8 | exact d9 (by rfl) (by rfl)) (by rfl) (by simp only [List.length_cons,List.length_nil];omega)) ?_ | refine sS (e7 (by rfl) (by rfl) (by omega) (a0l (d:=cl0) (by omega) (by omega))) ?_ | refine sS (b5S (by rfl) (by rfl) (by rfl) (by omega) (by first | omega | (simp only [List.length_map];omega))) ?_ | refine sS (b6t (l:=(cellAt h d).w7) (c:=v) (by rfl) (by rfl) (by omega) (fun _=>rfl) (by rfl) (by rfl) (by rfl)) ?_ | rw [a1R (f:=i6) (l:=(cellAt h d).keys++[k]) (by simp)] | rw [a1R (f:=i6) (l:=(cellAt h d).w7++[v]) (by simp)] | rw [a1R (f:=i6) (l:=(cellAt h d).w7.set _ v) (by simp)] | fail)
 all_goals (conv=>whnf)
 all_goals (first | (exfalso;rw [hl.2.1 (by omega) (by omega)] at hp;cases hp) | (rw [hl.1 (by omega) (by omega)] at hp;cases hp;refine le_of_eq ?_;simp [hcl]) | (rw [hl.2.2 (by omega) (by omega)] at hp;cases hp;refine le_of_eq ?_;simp [hcl]))
end Go.Ab.Td
namespace Go.Ab.Td
set_option maxRecDepth 100000
open Go Go.Ab
variable {P:Program}
set_option linter.unusedSimpArgs false
attribute [local irreducible] f0
end Go.Ab.Td
namespace Go.Ab.Td
set_option maxRecDepth 100000
set_option maxRecDepth 100000
open Go Go.Ab
variable {P:Program}
set_option linter.unusedSimpArgs false
attribute [local irreducible] f0
set_option maxHeartbeats 1000000 in
theorem F9 (C:Laid P) (s:F2) (n:Int) (l:List Ob) (h0:0≤n) (h1:n≤s.ops.length) (h2:s.ops.length - n+l.length≤100) (h3:s.ops.length≤1000000) (h4:l.length≤1000000):j7 P G s9 [aS s,pI n,.sl 7 (List.map i6 l)] [] (.x8 [aS {s with ops:=s.ops.take (s.ops.length - n.toNat)++l},pI 0]):=by
 refine i5 C (a6x C) rfl ?_
 have hw:IntKind.i64.wrap ((s.ops.length:Int) - n)=(s.ops.length:Int) - n:=wrap_small (by omega) (by omega)
 have hw2:IntKind.i64.wrap ((s.ops.length:Int) - n+l.length)=(s.ops.length:Int) - n+l.length:=wrap_small (by omega) (by omega)
 have ht:((s.ops.length:Int) - n).toNat=s.ops.length - n.toNat:=by omega
 repeat' ((conv=>whnf);first | (with_reducible refine sC (by kernel_rfl) ?_) | ((with_reducible refine sB ?_);first | refine Or.inl ⟨by first | assumption | (simp only [nm,List.length_map,hw,hw2];first | done | assumption | omega),?_⟩ | refine Or.inr (Or.inl ⟨by first | assumption | (simp only [nm,List.length_map,hw,hw2];first | done | assumption | omega),?_⟩) | (refine Or.inr (Or.inr ⟨fun hsp=>?_,fun hsp=>?_⟩) <;>(try simp only [nm,List.length_map,hw,hw2] at hsp) <;>try subst hsp)) | ((with_reducible refine o8 ?_);first | refine Or.inl ⟨by first | assumption | (simp only [nm,List.length_map,hw,hw2];first | done | assumption | omega),?_⟩ | refine Or.inr (Or.inl ⟨by first | assumption | (simp only [nm,List.length_map,hw,hw2];first | done | assumption | omega),?_⟩) | (refine Or.inr (Or.inr ⟨fun hsp=>?_,fun hsp=>?_⟩) <;>(try simp only [nm,List.length_map,hw,hw2] at hsp) <;>try subst hsp)) | ((with_reducible refine o7 ?_);first | refine Or.inl ⟨by first | assumption | (simp only [nm,List.length_map,hw,hw2];first | done | assumption | omega),?_⟩ | refine Or.inr (Or.inl ⟨by first | assumption | (simp only [nm,List.length_map,hw,hw2];first | done | assumption | omega),?_⟩) | (refine Or.inr (Or.inr ⟨fun hsp=>?_,fun hsp=>?_⟩) <;>(try simp only [nm,List.length_map,hw,hw2] at hsp) <;>try subst hsp)) | ((refine sP (by rfl) ?_);first | refine Or.inl ⟨by first | assumption | (simp only [nm,List.length_map,hw,hw2];first | done | assumption | omega),?_⟩ | refine Or.inr (Or.inl ⟨by first | assumption | (simp only [nm,List.length_map,hw,hw2];first | done | assumption | omega),?_⟩) | (refine Or.inr (Or.inr ⟨fun hsp=>?_,fun hsp=>?_⟩) <;>(try simp only [nm,List.length_map,hw,hw2] at hsp) <;>try subst hsp)) | refine sS (Z0 (by rfl) (by rfl) (by rfl) (by omega) (by simp only [List.length_map,hw];omega) (by simp only [List.length_map,hw];omega)) ?_ | refine sS (n9 (f:=i6) (by rfl) (by first | exact e8 | exact d8 | exact d9 (by rfl) (by rfl)) (by rfl) (by simp only [List.length_map,hw,ht,List.length_drop,List.length_take];omega)) ?_ | refine sS (m6 (f:=i6) (x':=l) (by rfl) (by rfl) (by rfl) (by first | exact e8 | exact d8 | exact d9 (by rfl) (by rfl)) (by rfl) (by simp only [List.length_map,hw,ht,List.length_drop,List.length_take];omega)) ?_ | fail)
 all_goals (conv=>whnf)
 all_goals (refine v3 (H8.cons ?_ (H8.refl _));refine o6 (H8.cons (r9 ?_) (H8.refl _));simp only [List.length_map,hw,ht];simp;exact List.take_of_length_le (by simp))
end Go.Ab.Td
namespace Go.Ab.Td
set_option maxRecDepth 100000
open Go Go.Ab
variable {P:Program}
set_option linter.unusedSimpArgs false
attribute [local irreducible] f0
end Go.Ab.Td
namespace Go.Ab.Td
set_option maxRecDepth 100000
open Go Go.Ab
variable {P:Program}
set_option linter.unusedSimpArgs false
attribute [local irreducible] f0
end Go.Ab.Td
namespace Go.Ab.Td
set_option maxRecDepth 100000
open Go Go.Ab
variable {P:Program}
set_option linter.unusedSimpArgs false
attribute [local irreducible] f0
end Go.Ab.Td
namespace Go.Ab.Td
set_option maxRecDepth 100000
open Go Go.Ab
variable {P:Program}
set_option linter.unusedSimpArgs false
attribute [local irreducible] f0
noncomputable def oct (h:List Cl) (o:Ob):Option (List UInt8):=if o.kind=5 then some o.name else if o.kind=6 then some (sub h o) else none
end Go.Ab.Td

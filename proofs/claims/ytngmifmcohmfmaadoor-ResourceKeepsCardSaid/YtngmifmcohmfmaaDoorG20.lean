/- A part of the proof: the texts TdKe. Under: nothing. -/
import Derived.Test.YtngmifmcohmfmaaDoorG19
import Derived.Test.YtngmifmcohmfmaaDoorG05
set_option linter.unusedVariables false
namespace Go.Ab.Td
set_option maxRecDepth 100000
set_option maxRecDepth 100000
open Go Go.Ab
variable {P:Program}
set_option linter.unusedSimpArgs false
attribute [local irreducible] j6
theorem a4U (k:Ob):∀ (l:List Ob) (i:Nat),(0≤i9 k i l)↔k ∈ l
 | [],i=>by simp [i9]
 | x::l,i=>by
   unfold i9
   split
   ·rename_i h;simp [h]
   ·rename_i h
    rw [a4U k l (i+1)]
    simp only [List.mem_cons]
    constructor
    ·exact .inr
    ·rintro (e | e)
     ·exact absurd e.symm h
     ·exact e
theorem b4u (C:Laid P):a0k P y0 C4=true:=by
 unfold a0k
 rw [a0Z C]
 kernel_rfl
def A0 (g:Nat):Option x4:=match Nat.beq g y0 with | true=>some C4 | false=>none
theorem c3B (C:Laid P) {g:Nat} {c:x4} {ps:List PV} {r:PV} (hk:i5 P g c=true) (hl:ps.length=c.nparams) (h:fnV G (l9 P G) noX noT A0 1 c ps r):l9 P G g ps [] r:=
 a9a C.mixed hk (fun _ _ h=>by cases h) (fun _ _ h=>by cases h) (fun g c h=>by
  unfold A0 at h
  split at h
  ·rename_i hb
   have:=Nat.eq_of_beq_eq_true hb
   subst this
   cases h
   exact b4u C
  ·cases h) hl h
def b3r (l:List Ob):Prop:=∀ (i:Nat) (k:Ob),l[i]?=some k→b1d k=(k,0)∧¬ k ∈ l.take i
def a2M (c:Cl):List (List Ob):=[c.items,c.keys,c.v3]
def a5d (h:List Cl) (c:Cl):Prop:=(∀ l ∈ a2M c,∀ o ∈ l,fits h o)∧b3r c.keys
set_option maxHeartbeats 1000000 in
theorem a5l (C:Laid P) (l:List Ob) (k:Ob) (hl:l.length<2 ^ 62):l9 P G C3 [.sl 7 (List.map m6 l),aO k] [] (.bool (tt (k ∈ l))):=by
 refine l7 C (a0J C) rfl ?_
 repeat' ((conv=>whnf);first | (with_reducible refine sC (by kernel_rfl) ?_) | ((first | (with_reducible first | refine sB ?_ | refine A2 ?_ | refine A3 ?_) | refine sP (by rfl) ?_);first | refine oT ?_ | refine oF ?_ | (refine Or.inr (Or.inr ⟨fun hsp=>?_,fun hsp=>?_⟩) <;>(try simp only [nm] at hsp) <;>try subst hsp)) | refine ⟨_,_,w9 C l k hl,?_⟩ | fail)
 all_goals (conv=>whnf)
 all_goals (first | (with_reducible refine L9 ?_) | (with_reducible refine J2 ?_) | (refine N7 ?_;try simp (disch:=omega) only [nm,wrap_small])) <;>(exact a4U k l 0)
set_option maxHeartbeats 1000000 in
theorem a9R (C:Laid P) (c:Cl):l9 P G L0 [aC c] [] (.func (.func y0) [] [.ref (m9 c)]):=by
 refine l7 C (a5V C) rfl ?_
 repeat' ((conv=>whnf);first | (with_reducible refine sC (by kernel_rfl) ?_) | ((first | (with_reducible first | refine sB ?_ | refine A2 ?_ | refine A3 ?_) | refine sP (by rfl) ?_);first | refine oT ?_ | refine oF ?_ | (refine Or.inr (Or.inr ⟨fun hsp=>?_,fun hsp=>?_⟩) <;>(try simp only [nm] at hsp) <;>try subst hsp)) | fail)
 all_goals (conv=>whnf)
 all_goals (exact PV.le.refl _)
set_option maxHeartbeats 4000000 in
theorem a6I (C:Laid P) (h:List Cl) (c:Cl) (hs:c.small) (hn:∀ l ∈ a2M c,∀ o ∈ l,o.n<9223372036854775808):l9 P G F5 [.agg [.sl 7 (List.map m9 h)],aC c] [] (.bool (tt (a5d h c))):=by
 refine c3B C (a2B C) rfl ?_
 repeat' ((conv=>whnf);first | (with_reducible refine sC (by kernel_rfl) ?_) | ((first | (with_reducible first | refine sB ?_ | refine A2 ?_ | refine A3 ?_) | refine sP (by rfl) ?_);first | refine oT ?_ | refine oF ?_ | (refine Or.inr (Or.inr ⟨fun hsp=>?_,fun hsp=>?_⟩) <;>(try simp only [nm,List.length_map] at hsp) <;>try subst hsp)) | refine ⟨_,_,a9R C c,?_⟩ | fail)
 all_goals (conv=>whnf)
 intro X hX hW
 obtain ⟨ls,hls⟩:∃ ls,ls=a2M c:=⟨_,rfl⟩
 have hll:ls.length=3:=by rw [hls];rfl
 refine c2B hX hW (fun st (a:Nat)=>st.upd [(14,.pv (pI (a:Int)))] []) (fun a k=>a+k=ls.length∧∀ j,j<a→∀ l,ls[j]?=some l→∀ o ∈ l,fits h o) 0 ls.length (by (conv=>whnf);first | done | rfl) ⟨by simp,by intro j hj;omega⟩ ?_
 intro m a ih hI
 rcases a5u ls a with ⟨L,hlt,hx⟩ | hge
 ·have hmem:L ∈ a2M c:=by rw [← hls];exact List.mem_of_getElem? hx
  have hxx:[slO c.items,slO c.keys,slO c.v3][a]?=some (slO L):=by rw [show [slO c.items,slO c.keys,slO c.v3]=ls.map (fun l=>slO l) by rw [hls];rfl,List.getElem?_map,hx];rfl
  have hLl:L.length≤1000000:=by
   simp only [a2M,List.mem_cons,List.not_mem_nil,or_false] at hmem
   obtain ⟨s1,s2,s3,s4⟩:=hs
   rcases hmem with rfl | rfl | rfl <;>omega
  have hLn:=hn L hmem
  repeat' ((conv=>whnf);first | (with_reducible refine sC (by kernel_rfl) ?_) | ((first | (with_reducible first | refine sB ?_ | refine A2 ?_ | refine A3 ?_) | refine sP (by rfl) ?_);first | refine oT ?_ | refine oF ?_ | (refine Or.inr (Or.inr ⟨fun hsp=>?_,fun hsp=>?_⟩) <;>(try simp only [nm,List.length_map] at hsp) <;>try subst hsp)) | refine sS (b3i (a:=slO c.items) (b:=slO c.keys) (c:=slO c.v3) (y:=slO L) hxx (by rfl) (by rfl) (by rfl)) ?_ | fail)
  all_goals (conv=>whnf)
  intro Y hY hWY
  refine c2B hY hWY (fun st (i:Nat)=>st.upd [(19,.pv (pI (i:Int)))] []) (fun i k=>i+k=L.length∧∀ j,j<i→∀ o,L[j]?=some o→fits h o) 0 L.length (by (conv=>whnf);first | done | rfl) ⟨by simp,by intro j hj;omega⟩ ?_
  intro m2 i jh hJ
  rcases a5u L i with ⟨x,hlt2,hy⟩ | hge2
  ·have hrow:=T4 (f:=m6) hy
   have hn1:=hLn x (List.mem_of_getElem? hy)
   have kF:=a5g C h x hn1
   by_cases hf:fits h x
   ·rw [show tt (fits h x)=true from a2l.mpr hf] at kF
    repeat' ((conv=>whnf);first | (with_reducible refine sC (by kernel_rfl) ?_) | ((first | (with_reducible first | refine sB ?_ | refine A2 ?_ | refine A3 ?_) | refine sP (by rfl) ?_);first | refine oT ?_ | refine oF ?_ | (refine Or.inr (Or.inr ⟨fun hsp=>?_,fun hsp=>?_⟩) <;>(try simp only [nm,List.length_map] at hsp) <;>try subst hsp)) | refine ⟨_,_,kF,?_⟩ | refine sS (i4 (by rfl) (by rfl) (by omega) hrow) ?_ | fail)
    all_goals (conv=>whnf)
    all_goals (refine jh (m2 - 1) (i+1) _ (by omega) ⟨by (try dsimp only);omega,?_⟩ (by (conv=>whnf);first | done | rfl | (simp (disch:=omega) only [H8])))
    all_goals (intro j hj o ho;by_cases e:j<i;(·exact hJ.2 j e o ho);have e2:j=i:=(by omega);subst e2;rw [hy] at ho;cases ho;exact hf)
   ·rw [show tt (fits h x)=false from a1J.mpr hf] at kF
    repeat' ((conv=>whnf);first | (with_reducible refine sC (by kernel_rfl) ?_) | ((first | (with_reducible first | refine sB ?_ | refine A2 ?_ | refine A3 ?_) | refine sP (by rfl) ?_);first | refine oT ?_ | refine oF ?_ | (refine Or.inr (Or.inr ⟨fun hsp=>?_,fun hsp=>?_⟩) <;>(try simp only [nm,List.length_map] at hsp) <;>try subst hsp)) | refine ⟨_,_,kF,?_⟩ | refine sS (i4 (by rfl) (by rfl) (by omega) hrow) ?_ | fail)
    all_goals (conv=>whnf)
    all_goals exact J2 (fun hp=>hf (hp.1 L hmem x (List.mem_of_getElem? hy)))
  ·repeat' ((conv=>whnf);first | (with_reducible refine sC (by kernel_rfl) ?_) | ((first | (with_reducible first | refine sB ?_ | refine A2 ?_ | refine A3 ?_) | refine sP (by rfl) ?_);first | refine oT ?_ | refine oF ?_ | (refine Or.inr (Or.inr ⟨fun hsp=>?_,fun hsp=>?_⟩) <;>(try simp only [nm,List.length_map] at hsp) <;>try subst hsp)) | fail)
   all_goals (conv=>whnf)
   all_goals (refine ih (m - 1) (a+1) _ (by omega) ⟨by (try dsimp only);omega,?_⟩ (by (conv=>whnf);first | done | rfl | (simp (disch:=omega) only [H8])))
   all_goals (intro j hj l hl o ho;by_cases e:j<a;(·exact hI.2 j e l hl o ho);have e2:j=a:=(by omega);subst e2;rw [hx] at hl;cases hl;obtain ⟨q,hq⟩:=List.getElem?_of_mem ho;exact hJ.2 q (by have:=(List.getElem?_eq_some_iff.1 hq).1;omega) o hq)
 ·have hall:∀ l ∈ a2M c,∀ o ∈ l,fits h o:=by
   intro l hl o ho
   rw [← hls] at hl
   obtain ⟨q,hq⟩:=List.getElem?_of_mem hl
   exact hI.2 q (by have:=(List.getElem?_eq_some_iff.1 hq).1;omega) l hq o ho
  have hkn:∀ o ∈ c.keys,o.n<9223372036854775808:=hn c.keys (by simp [a2M])
  obtain ⟨s1,s2,s3,s4⟩:=hs
  repeat' ((conv=>whnf);first | (with_reducible refine sC (by kernel_rfl) ?_) | ((first | (with_reducible first | refine sB ?_ | refine A2 ?_ | refine A3 ?_) | refine sP (by rfl) ?_);first | refine oT ?_ | refine oF ?_ | (refine Or.inr (Or.inr ⟨fun hsp=>?_,fun hsp=>?_⟩) <;>(try simp only [nm,List.length_map] at hsp) <;>try subst hsp)) | fail)
  all_goals (conv=>whnf)
  intro Z hZ hWZ
  refine a6V hZ (fun st (i:Nat)=>st.upd [(21,.pv (pI (i:Int)))] []) (fun i k=>i+k=c.keys.length∧∀ j,j<i→∀ o,c.keys[j]?=some o→b1d o=(o,0)∧¬ o ∈ c.keys.take j) 0 c.keys.length (by (conv=>whnf);first | done | rfl) ⟨by simp,by intro j hj;omega⟩ ?_
  intro m2 i jh hJ
  rcases a5u c.keys i with ⟨x,hlt2,hy⟩ | hge2
  ·have hrow:=T4 (f:=m6) hy
   have kK:=a7a C x (hkn x (List.mem_of_getElem? hy))
   have kC:=a5l C (c.keys.take i) x (by rw [List.length_take];omega)
   by_cases hk:b1d x=(x,0)
   ·rw [hk] at kK
    by_cases hm:x ∈ c.keys.take i
    ·rw [show tt (x ∈ c.keys.take i)=true from a2l.mpr hm] at kC
     repeat' ((conv=>whnf);first | (with_reducible refine sC (by kernel_rfl) ?_) | ((first | (with_reducible first | refine sB ?_ | refine A2 ?_ | refine A3 ?_) | refine sP (by rfl) ?_);first | refine oT ?_ | refine oF ?_ | (refine Or.inr (Or.inr ⟨fun hsp=>?_,fun hsp=>?_⟩) <;>(try simp only [nm,List.length_map] at hsp) <;>try subst hsp)) | refine ⟨_,_,kK,?_⟩ | refine ⟨_,_,kC,?_⟩ | refine sS (i4 (by rfl) (by rfl) (by omega) hrow) ?_ | refine sS (X0 (f:=m6) (l:=c.keys) (a:=0) (h:=(i:Int)) (by rfl) (by rfl) (by rfl) (by omega) (by omega) (by omega)) ?_ | fail)
     all_goals (conv=>whnf)
     all_goals exact J2 (fun hp=>(hp.2 i x hy).2 hm)
    ·rw [show tt (x ∈ c.keys.take i)=false from a1J.mpr hm] at kC
     repeat' ((conv=>whnf);first | (with_reducible refine sC (by kernel_rfl) ?_) | ((first | (with_reducible first | refine sB ?_ | refine A2 ?_ | refine A3 ?_) | refine sP (by rfl) ?_);first | refine oT ?_ | refine oF ?_ | (refine Or.inr (Or.inr ⟨fun hsp=>?_,fun hsp=>?_⟩) <;>(try simp only [nm,List.length_map] at hsp) <;>try subst hsp)) | refine ⟨_,_,kK,?_⟩ | refine ⟨_,_,kC,?_⟩ | refine sS (i4 (by rfl) (by rfl) (by omega) hrow) ?_ | refine sS (X0 (f:=m6) (l:=c.keys) (a:=0) (h:=(i:Int)) (by rfl) (by rfl) (by rfl) (by omega) (by omega) (by omega)) ?_ | fail)
     all_goals (conv=>whnf)
     all_goals (refine jh (m2 - 1) (i+1) _ (by omega) ⟨by (try dsimp only);omega,?_⟩ (by (conv=>whnf);first | done | rfl | (simp (disch:=omega) only [H8])))
     all_goals (intro j hj o ho;by_cases e:j<i;(·exact hJ.2 j e o ho);have e2:j=i:=(by omega);subst e2;rw [hy] at ho;cases ho;exact ⟨hk,hm⟩)
   ·repeat' ((conv=>whnf);first | (with_reducible refine sC (by kernel_rfl) ?_) | ((first | (with_reducible first | refine sB ?_ | refine A2 ?_ | refine A3 ?_) | refine sP (by rfl) ?_);first | refine oT ?_ | refine oF ?_ | (refine Or.inr (Or.inr ⟨fun hsp=>?_,fun hsp=>?_⟩) <;>(try simp only [nm,List.length_map] at hsp) <;>try subst hsp)) | refine ⟨_,_,kK,?_⟩ | refine ⟨_,_,kC,?_⟩ | refine sS (i4 (by rfl) (by rfl) (by omega) hrow) ?_ | refine sS (X0 (f:=m6) (l:=c.keys) (a:=0) (h:=(i:Int)) (by rfl) (by rfl) (by rfl) (by omega) (by omega) (by omega)) ?_ | fail)
    all_goals (conv=>whnf)
    all_goals first
     | exact J2 (fun hp=>hk (hp.2 i x hy).1)
     | (exfalso;exact hk (Prod.ext (by assumption) (by assumption)))
     | (exfalso;apply hk;grind)
  ·repeat' ((conv=>whnf);first | (with_reducible refine sC (by kernel_rfl) ?_) | ((first | (with_reducible first | refine sB ?_ | refine A2 ?_ | refine A3 ?_) | refine sP (by rfl) ?_);first | refine oT ?_ | refine oF ?_ | (refine Or.inr (Or.inr ⟨fun hsp=>?_,fun hsp=>?_⟩) <;>(try simp only [nm,List.length_map] at hsp) <;>try subst hsp)) | fail)
   all_goals (conv=>whnf)
   all_goals exact L9 ⟨hall,fun q k hq=>hJ.2 q (by have:=(List.getElem?_eq_some_iff.1 hq).1;omega) k hq⟩
end Go.Ab.Td

/- A part of the proof: the texts TdKe. Under: nothing. -/
import Derived.Test.YtngmifmcohmfmaaDoorG11
import Derived.Test.YtngmifmcohmfmaaDoorG05
set_option linter.unusedVariables false
namespace Go.Ab.Td
set_option maxRecDepth 100000
set_option maxRecDepth 100000
open Go Go.Ab
variable {P:Program}
set_option linter.unusedSimpArgs false
attribute [local irreducible] e9
theorem a6i (k:Ob):∀ (l:List Ob) (i:Nat),(0≤j1 k i l)↔k ∈ l
 | [],i=>by simp [j1]
 | x::l,i=>by
   unfold j1
   split
   ·rename_i h;simp [h]
   ·rename_i h
    rw [a6i k l (i+1)]
    simp only [List.mem_cons]
    constructor
    ·exact .inr
    ·rintro (e | e)
     ·exact absurd e.symm h
     ·exact e
theorem b7H (C:Laid P):P7 P x9 C8=true:=by
 unfold P7
 rw [a1E C]
 kernel_rfl
def A1 (g:Nat):Option m8:=match Nat.beq g x9 with | true=>some C8 | false=>none
theorem c7l (C:Laid P) {g:Nat} {c:m8} {ps:List PV} {r:PV} (hk:b9 P g c=true) (hl:ps.length=c.nparams) (h:fnV G (j4 P G) noX noT A1 1 c ps r):j4 P G g ps [] r:=
 a7S C.mixed hk (fun _ _ h=>by cases h) (fun _ _ h=>by cases h) (fun g c h=>by
  unfold A1 at h
  split at h
  ·rename_i hb
   have:=Nat.eq_of_beq_eq_true hb
   subst this
   cases h
   exact b7H C
  ·cases h) hl h
def b6A (l:List Ob):Prop:=∀ (i:Nat) (k:Ob),l[i]?=some k→b6D k=(k,0)∧¬ k ∈ l.take i
def a3O (c:Cl):List (List Ob):=[c.items,c.keys,c.x7]
def a6s (h:List Cl) (c:Cl):Prop:=(∀ l ∈ a3O c,∀ o ∈ l,fits h o)∧b6A c.keys
set_option maxHeartbeats 1000000 in
theorem a6x (C:Laid P) (l:List Ob) (k:Ob) (hl:l.length<2 ^ 62):j4 P G C6 [.sl 7 (List.map i4 l),aO k] [] (.bool (tt (k ∈ l))):=by
 refine i5 C (a1r C) rfl ?_
 repeat' ((conv=>whnf);first | (with_reducible refine sC (by kernel_rfl) ?_) | ((first | (with_reducible first | refine sB ?_ | refine o5 ?_ | refine o6 ?_) | refine sP (by rfl) ?_);first | refine oT ?_ | refine oF ?_ | (refine Or.inr (Or.inr ⟨fun hsp=>?_,fun hsp=>?_⟩) <;>(try simp only [nm] at hsp) <;>try subst hsp)) | refine ⟨_,_,a8h C l k hl,?_⟩ | fail)
 all_goals (conv=>whnf)
 all_goals (first | (with_reducible refine A0 ?_) | (with_reducible refine y3 ?_) | (refine A3 ?_;try simp (disch:=omega) only [nm,wrap_small])) <;>(exact a6i k l 0)
set_option maxHeartbeats 1000000 in
theorem b2d (C:Laid P) (c:Cl):j4 P G O0 [aC c] [] (.func (.func x9) [] [.ref (j8 c)]):=by
 refine i5 C (a7q C) rfl ?_
 repeat' ((conv=>whnf);first | (with_reducible refine sC (by kernel_rfl) ?_) | ((first | (with_reducible first | refine sB ?_ | refine o5 ?_ | refine o6 ?_) | refine sP (by rfl) ?_);first | refine oT ?_ | refine oF ?_ | (refine Or.inr (Or.inr ⟨fun hsp=>?_,fun hsp=>?_⟩) <;>(try simp only [nm] at hsp) <;>try subst hsp)) | fail)
 all_goals (conv=>whnf)
 all_goals (exact PV.le.refl _)
set_option maxHeartbeats 4000000 in
theorem a8e (C:Laid P) (h:List Cl) (c:Cl) (hs:c.small) (hn:∀ l ∈ a3O c,∀ o ∈ l,o.n<9223372036854775808):j4 P G H6 [.agg [.sl 7 (List.map j8 h)],aC c] [] (.bool (tt (a6s h c))):=by
 refine c7l C (a3E C) rfl ?_
 repeat' ((conv=>whnf);first | (with_reducible refine sC (by kernel_rfl) ?_) | ((first | (with_reducible first | refine sB ?_ | refine o5 ?_ | refine o6 ?_) | refine sP (by rfl) ?_);first | refine oT ?_ | refine oF ?_ | (refine Or.inr (Or.inr ⟨fun hsp=>?_,fun hsp=>?_⟩) <;>(try simp only [nm,List.length_map] at hsp) <;>try subst hsp)) | refine ⟨_,_,b2d C c,?_⟩ | fail)
 all_goals (conv=>whnf)
 intro X hX hW
 obtain ⟨ls,hls⟩:∃ ls,ls=a3O c:=⟨_,rfl⟩
 have hll:ls.length=3:=by rw [hls];rfl
 refine c3q hX hW (fun st (a:Nat)=>st.upd [(14,.pv (pI (a:Int)))] []) (fun a k=>a+k=ls.length∧∀ j,j<a→∀ l,ls[j]?=some l→∀ o ∈ l,fits h o) 0 ls.length (by (conv=>whnf);first | done | rfl) ⟨by simp,by intro j hj;omega⟩ ?_
 intro m a ih hI
 rcases a0J ls a with ⟨L,hlt,hx⟩ | hge
 ·have hmem:L ∈ a3O c:=by rw [← hls];exact List.mem_of_getElem? hx
  have hxx:[slO c.items,slO c.keys,slO c.x7][a]?=some (slO L):=by rw [show [slO c.items,slO c.keys,slO c.x7]=ls.map (fun l=>slO l) by rw [hls];rfl,List.getElem?_map,hx];rfl
  have hLl:L.length≤1000000:=by
   simp only [a3O,List.mem_cons,List.not_mem_nil,or_false] at hmem
   obtain ⟨s1,s2,s3,s4⟩:=hs
   rcases hmem with rfl | rfl | rfl <;>omega
  have hLn:=hn L hmem
  repeat' ((conv=>whnf);first | (with_reducible refine sC (by kernel_rfl) ?_) | ((first | (with_reducible first | refine sB ?_ | refine o5 ?_ | refine o6 ?_) | refine sP (by rfl) ?_);first | refine oT ?_ | refine oF ?_ | (refine Or.inr (Or.inr ⟨fun hsp=>?_,fun hsp=>?_⟩) <;>(try simp only [nm,List.length_map] at hsp) <;>try subst hsp)) | refine sS (b6m (a:=slO c.items) (b:=slO c.keys) (c:=slO c.x7) (y:=slO L) hxx (by rfl) (by rfl) (by rfl)) ?_ | fail)
  all_goals (conv=>whnf)
  intro Y hY hWY
  refine c3q hY hWY (fun st (i:Nat)=>st.upd [(19,.pv (pI (i:Int)))] []) (fun i k=>i+k=L.length∧∀ j,j<i→∀ o,L[j]?=some o→fits h o) 0 L.length (by (conv=>whnf);first | done | rfl) ⟨by simp,by intro j hj;omega⟩ ?_
  intro m2 i jh hJ
  rcases a0J L i with ⟨x,hlt2,hy⟩ | hge2
  ·have hrow:=y9 (f:=i4) hy
   have hn1:=hLn x (List.mem_of_getElem? hy)
   have kF:=b6H C h x hn1
   by_cases hf:fits h x
   ·rw [show tt (fits h x)=true from Q8.mpr hf] at kF
    repeat' ((conv=>whnf);first | (with_reducible refine sC (by kernel_rfl) ?_) | ((first | (with_reducible first | refine sB ?_ | refine o5 ?_ | refine o6 ?_) | refine sP (by rfl) ?_);first | refine oT ?_ | refine oF ?_ | (refine Or.inr (Or.inr ⟨fun hsp=>?_,fun hsp=>?_⟩) <;>(try simp only [nm,List.length_map] at hsp) <;>try subst hsp)) | refine ⟨_,_,kF,?_⟩ | refine sS (e7 (by rfl) (by rfl) (by omega) hrow) ?_ | fail)
    all_goals (conv=>whnf)
    all_goals (refine jh (m2 - 1) (i+1) _ (by omega) ⟨by (try dsimp only);omega,?_⟩ (by (conv=>whnf);first | done | rfl | (simp (disch:=omega) only [A7])))
    all_goals (intro j hj o ho;by_cases e:j<i;(·exact hJ.2 j e o ho);have e2:j=i:=(by omega);subst e2;rw [hy] at ho;cases ho;exact hf)
   ·rw [show tt (fits h x)=false from I2.mpr hf] at kF
    repeat' ((conv=>whnf);first | (with_reducible refine sC (by kernel_rfl) ?_) | ((first | (with_reducible first | refine sB ?_ | refine o5 ?_ | refine o6 ?_) | refine sP (by rfl) ?_);first | refine oT ?_ | refine oF ?_ | (refine Or.inr (Or.inr ⟨fun hsp=>?_,fun hsp=>?_⟩) <;>(try simp only [nm,List.length_map] at hsp) <;>try subst hsp)) | refine ⟨_,_,kF,?_⟩ | refine sS (e7 (by rfl) (by rfl) (by omega) hrow) ?_ | fail)
    all_goals (conv=>whnf)
    all_goals exact y3 (fun hp=>hf (hp.1 L hmem x (List.mem_of_getElem? hy)))
  ·repeat' ((conv=>whnf);first | (with_reducible refine sC (by kernel_rfl) ?_) | ((first | (with_reducible first | refine sB ?_ | refine o5 ?_ | refine o6 ?_) | refine sP (by rfl) ?_);first | refine oT ?_ | refine oF ?_ | (refine Or.inr (Or.inr ⟨fun hsp=>?_,fun hsp=>?_⟩) <;>(try simp only [nm,List.length_map] at hsp) <;>try subst hsp)) | fail)
   all_goals (conv=>whnf)
   all_goals (refine ih (m - 1) (a+1) _ (by omega) ⟨by (try dsimp only);omega,?_⟩ (by (conv=>whnf);first | done | rfl | (simp (disch:=omega) only [A7])))
   all_goals (intro j hj l hl o ho;by_cases e:j<a;(·exact hI.2 j e l hl o ho);have e2:j=a:=(by omega);subst e2;rw [hx] at hl;cases hl;obtain ⟨q,hq⟩:=List.getElem?_of_mem ho;exact hJ.2 q (by have:=(List.getElem?_eq_some_iff.1 hq).1;omega) o hq)
 ·have hall:∀ l ∈ a3O c,∀ o ∈ l,fits h o:=by
   intro l hl o ho
   rw [← hls] at hl
   obtain ⟨q,hq⟩:=List.getElem?_of_mem hl
   exact hI.2 q (by have:=(List.getElem?_eq_some_iff.1 hq).1;omega) l hq o ho
  have hkn:∀ o ∈ c.keys,o.n<9223372036854775808:=hn c.keys (by simp [a3O])
  obtain ⟨s1,s2,s3,s4⟩:=hs
  repeat' ((conv=>whnf);first | (with_reducible refine sC (by kernel_rfl) ?_) | ((first | (with_reducible first | refine sB ?_ | refine o5 ?_ | refine o6 ?_) | refine sP (by rfl) ?_);first | refine oT ?_ | refine oF ?_ | (refine Or.inr (Or.inr ⟨fun hsp=>?_,fun hsp=>?_⟩) <;>(try simp only [nm,List.length_map] at hsp) <;>try subst hsp)) | fail)
  all_goals (conv=>whnf)
  intro Z hZ hWZ
  refine a2s hZ (fun st (i:Nat)=>st.upd [(21,.pv (pI (i:Int)))] []) (fun i k=>i+k=c.keys.length∧∀ j,j<i→∀ o,c.keys[j]?=some o→b6D o=(o,0)∧¬ o ∈ c.keys.take j) 0 c.keys.length (by (conv=>whnf);first | done | rfl) ⟨by simp,by intro j hj;omega⟩ ?_
  intro m2 i jh hJ
  rcases a0J c.keys i with ⟨x,hlt2,hy⟩ | hge2
  ·have hrow:=y9 (f:=i4) hy
   have kK:=b4P C x (hkn x (List.mem_of_getElem? hy))
   have kC:=a6x C (c.keys.take i) x (by rw [List.length_take];omega)
   by_cases hk:b6D x=(x,0)
   ·rw [hk] at kK
    by_cases hm:x ∈ c.keys.take i
    ·rw [show tt (x ∈ c.keys.take i)=true from Q8.mpr hm] at kC
     repeat' ((conv=>whnf);first | (with_reducible refine sC (by kernel_rfl) ?_) | ((first | (with_reducible first | refine sB ?_ | refine o5 ?_ | refine o6 ?_) | refine sP (by rfl) ?_);first | refine oT ?_ | refine oF ?_ | (refine Or.inr (Or.inr ⟨fun hsp=>?_,fun hsp=>?_⟩) <;>(try simp only [nm,List.length_map] at hsp) <;>try subst hsp)) | refine ⟨_,_,kK,?_⟩ | refine ⟨_,_,kC,?_⟩ | refine sS (e7 (by rfl) (by rfl) (by omega) hrow) ?_ | refine sS (U1 (f:=i4) (l:=c.keys) (a:=0) (h:=(i:Int)) (by rfl) (by rfl) (by rfl) (by omega) (by omega) (by omega)) ?_ | fail)
     all_goals (conv=>whnf)
     all_goals exact y3 (fun hp=>(hp.2 i x hy).2 hm)
    ·rw [show tt (x ∈ c.keys.take i)=false from I2.mpr hm] at kC
     repeat' ((conv=>whnf);first | (with_reducible refine sC (by kernel_rfl) ?_) | ((first | (with_reducible first | refine sB ?_ | refine o5 ?_ | refine o6 ?_) | refine sP (by rfl) ?_);first | refine oT ?_ | refine oF ?_ | (refine Or.inr (Or.inr ⟨fun hsp=>?_,fun hsp=>?_⟩) <;>(try simp only [nm,List.length_map] at hsp) <;>try subst hsp)) | refine ⟨_,_,kK,?_⟩ | refine ⟨_,_,kC,?_⟩ | refine sS (e7 (by rfl) (by rfl) (by omega) hrow) ?_ | refine sS (U1 (f:=i4) (l:=c.keys) (a:=0) (h:=(i:Int)) (by rfl) (by rfl) (by rfl) (by omega) (by omega) (by omega)) ?_ | fail)
     all_goals (conv=>whnf)
     all_goals (refine jh (m2 - 1) (i+1) _ (by omega) ⟨by (try dsimp only);omega,?_⟩ (by (conv=>whnf);first | done | rfl | (simp (disch:=omega) only [A7])))
     all_goals (intro j hj o ho;by_cases e:j<i;(·exact hJ.2 j e o ho);have e2:j=i:=(by omega);subst e2;rw [hy] at ho;cases ho;exact ⟨hk,hm⟩)
   ·repeat' ((conv=>whnf);first | (with_reducible refine sC (by kernel_rfl) ?_) | ((first | (with_reducible first | refine sB ?_ | refine o5 ?_ | refine o6 ?_) | refine sP (by rfl) ?_);first | refine oT ?_ | refine oF ?_ | (refine Or.inr (Or.inr ⟨fun hsp=>?_,fun hsp=>?_⟩) <;>(try simp only [nm,List.length_map] at hsp) <;>try subst hsp)) | refine ⟨_,_,kK,?_⟩ | refine ⟨_,_,kC,?_⟩ | refine sS (e7 (by rfl) (by rfl) (by omega) hrow) ?_ | refine sS (U1 (f:=i4) (l:=c.keys) (a:=0) (h:=(i:Int)) (by rfl) (by rfl) (by rfl) (by omega) (by omega) (by omega)) ?_ | fail)
    all_goals (conv=>whnf)
    all_goals first
     | exact y3 (fun hp=>hk (hp.2 i x hy).1)
     | (exfalso;exact hk (Prod.ext (by assumption) (by assumption)))
     | (exfalso;apply hk;grind)
  ·repeat' ((conv=>whnf);first | (with_reducible refine sC (by kernel_rfl) ?_) | ((first | (with_reducible first | refine sB ?_ | refine o5 ?_ | refine o6 ?_) | refine sP (by rfl) ?_);first | refine oT ?_ | refine oF ?_ | (refine Or.inr (Or.inr ⟨fun hsp=>?_,fun hsp=>?_⟩) <;>(try simp only [nm,List.length_map] at hsp) <;>try subst hsp)) | fail)
   all_goals (conv=>whnf)
   all_goals exact A0 ⟨hall,fun q k hq=>hJ.2 q (by have:=(List.getElem?_eq_some_iff.1 hq).1;omega) k hq⟩
end Go.Ab.Td

/- A part of the proof: the texts TdKe. Under: nothing. -/
import Derived.Test.YtomfaadmmchdcaaGreatDoorG12
import Derived.Test.YtomfaadmmchdcaaGreatDoorG05
set_option linter.unusedVariables false
namespace Go.Ab.Td
set_option maxRecDepth 100000
set_option maxRecDepth 100000
open Go Go.Ab
variable {P:Program}
set_option linter.unusedSimpArgs false
attribute [local irreducible] e9
theorem a6Y (k:Ob):∀ (l:List Ob) (i:Nat),(0≤i3 k i l)↔k ∈ l
 | [],i=>by simp [i3]
 | x::l,i=>by
   unfold i3
   split
   ·rename_i h;simp [h]
   ·rename_i h
    rw [a6Y k l (i+1)]
    simp only [List.mem_cons]
    constructor
    ·exact .inr
    ·rintro (e | e)
     ·exact absurd e.symm h
     ·exact e
theorem itr_objects (C:Laid P):S9 P L3 K7=true:=by
 unfold S9
 rw [b0f C]
 kernel_rfl
def x9 (g:Nat):Option n6:=match Nat.beq g L3 with | true=>some K7 | false=>none
theorem ok_fnI (C:Laid P) {g:Nat} {c:n6} {ps:List PV} {r:PV} (hk:d8 P g c=true) (hl:ps.length=c.nparams) (h:fnV G (l3 P G) noX noT x9 1 c ps r):l3 P G g ps [] r:=
 b3I C.mixed hk (fun _ _ h=>by cases h) (fun _ _ h=>by cases h) (fun g c h=>by
  unfold x9 at h
  split at h
  ·rename_i hb
   have:=Nat.eq_of_beq_eq_true hb
   subst this
   cases h
   exact itr_objects C
  ·cases h) hl h
def keysOk (l:List Ob):Prop:=∀ (i:Nat) (k:Ob),l[i]?=some k→b8L k=(k,0)∧¬ k ∈ l.take i
def c0F (c:Cl):List (List Ob):=[c.items,c.keys,c.B2]
def keyedP (h:List Cl) (c:Cl):Prop:=(∀ l ∈ c0F c,∀ o ∈ l,fits h o)∧keysOk c.keys
set_option maxHeartbeats 1000000 in
theorem ok_slices_Contains_Obj (C:Laid P) (l:List Ob) (k:Ob) (hl:l.length<2 ^ 62):l3 P G n_slices_Contains_Obj [.sl 7 (List.map i4 l),aO k] [] (.bool (tt (k ∈ l))):=by
 refine k8 C (k_slices_Contains_Obj C) rfl ?_
 repeat' ((conv=>whnf);first | (with_reducible refine sC (by kernel_rfl) ?_) | ((first | (with_reducible first | refine sB ?_ | refine z7 ?_ | refine z8 ?_) | refine sP (by rfl) ?_);first | refine oT ?_ | refine oF ?_ | (refine Or.inr (Or.inr ⟨fun hsp=>?_,fun hsp=>?_⟩) <;>(try simp only [nm] at hsp) <;>try subst hsp)) | refine ⟨_,_,X0 C l k hl,?_⟩ | fail)
 all_goals (conv=>whnf)
 all_goals (first | (with_reducible refine A9 ?_) | (with_reducible refine z9 ?_) | (refine A8 ?_;try simp (disch:=omega) only [nm,wrap_small])) <;>(exact a6Y k l 0)
set_option maxHeartbeats 1000000 in
theorem ok_heap_objects (C:Laid P) (c:Cl):l3 P G n_heap_objects [aC c] [] (.func (.func L3) [] [.ref (j8 c)]):=by
 refine k8 C (k_heap_objects C) rfl ?_
 repeat' ((conv=>whnf);first | (with_reducible refine sC (by kernel_rfl) ?_) | ((first | (with_reducible first | refine sB ?_ | refine z7 ?_ | refine z8 ?_) | refine sP (by rfl) ?_);first | refine oT ?_ | refine oF ?_ | (refine Or.inr (Or.inr ⟨fun hsp=>?_,fun hsp=>?_⟩) <;>(try simp only [nm] at hsp) <;>try subst hsp)) | fail)
 all_goals (conv=>whnf)
 all_goals (exact PV.le.refl _)
set_option maxHeartbeats 4000000 in
theorem ok_heap_store_keyed (C:Laid P) (h:List Cl) (c:Cl) (hs:c.small) (hn:∀ l ∈ c0F c,∀ o ∈ l,o.n<9223372036854775808):l3 P G n_heap_store_keyed [.agg [.sl 7 (List.map j8 h)],aC c] [] (.bool (tt (keyedP h c))):=by
 refine ok_fnI C (k_heap_store_keyed C) rfl ?_
 repeat' ((conv=>whnf);first | (with_reducible refine sC (by kernel_rfl) ?_) | ((first | (with_reducible first | refine sB ?_ | refine z7 ?_ | refine z8 ?_) | refine sP (by rfl) ?_);first | refine oT ?_ | refine oF ?_ | (refine Or.inr (Or.inr ⟨fun hsp=>?_,fun hsp=>?_⟩) <;>(try simp only [nm,List.length_map] at hsp) <;>try subst hsp)) | refine ⟨_,_,ok_heap_objects C c,?_⟩ | fail)
 all_goals (conv=>whnf)
 intro X hX hW
 obtain ⟨ls,hls⟩:∃ ls,ls=c0F c:=⟨_,rfl⟩
 have hll:ls.length=3:=by rw [hls];rfl
 refine c3O hX hW (fun st (a:Nat)=>st.upd [(14,.pv (pI (a:Int)))] []) (fun a k=>a+k=ls.length∧∀ j,j<a→∀ l,ls[j]?=some l→∀ o ∈ l,fits h o) 0 ls.length (by (conv=>whnf);first | done | rfl) ⟨by simp,by intro j hj;omega⟩ ?_
 intro m a ih hI
 rcases a3I ls a with ⟨L,hlt,hx⟩ | hge
 ·have hmem:L ∈ c0F c:=by rw [← hls];exact List.mem_of_getElem? hx
  have hxx:[slO c.items,slO c.keys,slO c.B2][a]?=some (slO L):=by rw [show [slO c.items,slO c.keys,slO c.B2]=ls.map (fun l=>slO l) by rw [hls];rfl,List.getElem?_map,hx];rfl
  have hLl:L.length≤1000000:=by
   simp only [c0F,List.mem_cons,List.not_mem_nil,or_false] at hmem
   obtain ⟨s1,s2,s3,s4⟩:=hs
   rcases hmem with rfl | rfl | rfl <;>omega
  have hLn:=hn L hmem
  repeat' ((conv=>whnf);first | (with_reducible refine sC (by kernel_rfl) ?_) | ((first | (with_reducible first | refine sB ?_ | refine z7 ?_ | refine z8 ?_) | refine sP (by rfl) ?_);first | refine oT ?_ | refine oF ?_ | (refine Or.inr (Or.inr ⟨fun hsp=>?_,fun hsp=>?_⟩) <;>(try simp only [nm,List.length_map] at hsp) <;>try subst hsp)) | refine sS (index3_false (a:=slO c.items) (b:=slO c.keys) (c:=slO c.B2) (y:=slO L) hxx (by rfl) (by rfl) (by rfl)) ?_ | fail)
  all_goals (conv=>whnf)
  intro Y hY hWY
  refine c3O hY hWY (fun st (i:Nat)=>st.upd [(19,.pv (pI (i:Int)))] []) (fun i k=>i+k=L.length∧∀ j,j<i→∀ o,L[j]?=some o→fits h o) 0 L.length (by (conv=>whnf);first | done | rfl) ⟨by simp,by intro j hj;omega⟩ ?_
  intro m2 i jh hJ
  rcases a3I L i with ⟨x,hlt2,hy⟩ | hge2
  ·have hrow:=K4 (f:=i4) hy
   have hn1:=hLn x (List.mem_of_getElem? hy)
   have kF:=a9r C h x hn1
   by_cases hf:fits h x
   ·rw [show tt (fits h x)=true from b1B.mpr hf] at kF
    repeat' ((conv=>whnf);first | (with_reducible refine sC (by kernel_rfl) ?_) | ((first | (with_reducible first | refine sB ?_ | refine z7 ?_ | refine z8 ?_) | refine sP (by rfl) ?_);first | refine oT ?_ | refine oF ?_ | (refine Or.inr (Or.inr ⟨fun hsp=>?_,fun hsp=>?_⟩) <;>(try simp only [nm,List.length_map] at hsp) <;>try subst hsp)) | refine ⟨_,_,kF,?_⟩ | refine sS (e7 (by rfl) (by rfl) (by omega) hrow) ?_ | fail)
    all_goals (conv=>whnf)
    all_goals (refine jh (m2 - 1) (i+1) _ (by omega) ⟨by (try dsimp only);omega,?_⟩ (by (conv=>whnf);first | done | rfl | (simp (disch:=omega) only [P9])))
    all_goals (intro j hj o ho;by_cases e:j<i;(·exact hJ.2 j e o ho);have e2:j=i:=(by omega);subst e2;rw [hy] at ho;cases ho;exact hf)
   ·rw [show tt (fits h x)=false from b2I.mpr hf] at kF
    repeat' ((conv=>whnf);first | (with_reducible refine sC (by kernel_rfl) ?_) | ((first | (with_reducible first | refine sB ?_ | refine z7 ?_ | refine z8 ?_) | refine sP (by rfl) ?_);first | refine oT ?_ | refine oF ?_ | (refine Or.inr (Or.inr ⟨fun hsp=>?_,fun hsp=>?_⟩) <;>(try simp only [nm,List.length_map] at hsp) <;>try subst hsp)) | refine ⟨_,_,kF,?_⟩ | refine sS (e7 (by rfl) (by rfl) (by omega) hrow) ?_ | fail)
    all_goals (conv=>whnf)
    all_goals exact z9 (fun hp=>hf (hp.1 L hmem x (List.mem_of_getElem? hy)))
  ·repeat' ((conv=>whnf);first | (with_reducible refine sC (by kernel_rfl) ?_) | ((first | (with_reducible first | refine sB ?_ | refine z7 ?_ | refine z8 ?_) | refine sP (by rfl) ?_);first | refine oT ?_ | refine oF ?_ | (refine Or.inr (Or.inr ⟨fun hsp=>?_,fun hsp=>?_⟩) <;>(try simp only [nm,List.length_map] at hsp) <;>try subst hsp)) | fail)
   all_goals (conv=>whnf)
   all_goals (refine ih (m - 1) (a+1) _ (by omega) ⟨by (try dsimp only);omega,?_⟩ (by (conv=>whnf);first | done | rfl | (simp (disch:=omega) only [P9])))
   all_goals (intro j hj l hl o ho;by_cases e:j<a;(·exact hI.2 j e l hl o ho);have e2:j=a:=(by omega);subst e2;rw [hx] at hl;cases hl;obtain ⟨q,hq⟩:=List.getElem?_of_mem ho;exact hJ.2 q (by have:=(List.getElem?_eq_some_iff.1 hq).1;omega) o hq)
 ·have hall:∀ l ∈ c0F c,∀ o ∈ l,fits h o:=by
   intro l hl o ho
   rw [← hls] at hl
   obtain ⟨q,hq⟩:=List.getElem?_of_mem hl
   exact hI.2 q (by have:=(List.getElem?_eq_some_iff.1 hq).1;omega) l hq o ho
  have hkn:∀ o ∈ c.keys,o.n<9223372036854775808:=hn c.keys (by simp [c0F])
  obtain ⟨s1,s2,s3,s4⟩:=hs
  repeat' ((conv=>whnf);first | (with_reducible refine sC (by kernel_rfl) ?_) | ((first | (with_reducible first | refine sB ?_ | refine z7 ?_ | refine z8 ?_) | refine sP (by rfl) ?_);first | refine oT ?_ | refine oF ?_ | (refine Or.inr (Or.inr ⟨fun hsp=>?_,fun hsp=>?_⟩) <;>(try simp only [nm,List.length_map] at hsp) <;>try subst hsp)) | fail)
  all_goals (conv=>whnf)
  intro Z hZ hWZ
  refine a3T hZ (fun st (i:Nat)=>st.upd [(21,.pv (pI (i:Int)))] []) (fun i k=>i+k=c.keys.length∧∀ j,j<i→∀ o,c.keys[j]?=some o→b8L o=(o,0)∧¬ o ∈ c.keys.take j) 0 c.keys.length (by (conv=>whnf);first | done | rfl) ⟨by simp,by intro j hj;omega⟩ ?_
  intro m2 i jh hJ
  rcases a3I c.keys i with ⟨x,hlt2,hy⟩ | hge2
  ·have hrow:=K4 (f:=i4) hy
   have kK:=b3e C x (hkn x (List.mem_of_getElem? hy))
   have kC:=ok_slices_Contains_Obj C (c.keys.take i) x (by rw [List.length_take];omega)
   by_cases hk:b8L x=(x,0)
   ·rw [hk] at kK
    by_cases hm:x ∈ c.keys.take i
    ·rw [show tt (x ∈ c.keys.take i)=true from b1B.mpr hm] at kC
     repeat' ((conv=>whnf);first | (with_reducible refine sC (by kernel_rfl) ?_) | ((first | (with_reducible first | refine sB ?_ | refine z7 ?_ | refine z8 ?_) | refine sP (by rfl) ?_);first | refine oT ?_ | refine oF ?_ | (refine Or.inr (Or.inr ⟨fun hsp=>?_,fun hsp=>?_⟩) <;>(try simp only [nm,List.length_map] at hsp) <;>try subst hsp)) | refine ⟨_,_,kK,?_⟩ | refine ⟨_,_,kC,?_⟩ | refine sS (e7 (by rfl) (by rfl) (by omega) hrow) ?_ | refine sS (O4 (f:=i4) (l:=c.keys) (a:=0) (h:=(i:Int)) (by rfl) (by rfl) (by rfl) (by omega) (by omega) (by omega)) ?_ | fail)
     all_goals (conv=>whnf)
     all_goals exact z9 (fun hp=>(hp.2 i x hy).2 hm)
    ·rw [show tt (x ∈ c.keys.take i)=false from b2I.mpr hm] at kC
     repeat' ((conv=>whnf);first | (with_reducible refine sC (by kernel_rfl) ?_) | ((first | (with_reducible first | refine sB ?_ | refine z7 ?_ | refine z8 ?_) | refine sP (by rfl) ?_);first | refine oT ?_ | refine oF ?_ | (refine Or.inr (Or.inr ⟨fun hsp=>?_,fun hsp=>?_⟩) <;>(try simp only [nm,List.length_map] at hsp) <;>try subst hsp)) | refine ⟨_,_,kK,?_⟩ | refine ⟨_,_,kC,?_⟩ | refine sS (e7 (by rfl) (by rfl) (by omega) hrow) ?_ | refine sS (O4 (f:=i4) (l:=c.keys) (a:=0) (h:=(i:Int)) (by rfl) (by rfl) (by rfl) (by omega) (by omega) (by omega)) ?_ | fail)
     all_goals (conv=>whnf)
     all_goals (refine jh (m2 - 1) (i+1) _ (by omega) ⟨by (try dsimp only);omega,?_⟩ (by (conv=>whnf);first | done | rfl | (simp (disch:=omega) only [P9])))
     all_goals (intro j hj o ho;by_cases e:j<i;(·exact hJ.2 j e o ho);have e2:j=i:=(by omega);subst e2;rw [hy] at ho;cases ho;exact ⟨hk,hm⟩)
   ·repeat' ((conv=>whnf);first | (with_reducible refine sC (by kernel_rfl) ?_) | ((first | (with_reducible first | refine sB ?_ | refine z7 ?_ | refine z8 ?_) | refine sP (by rfl) ?_);first | refine oT ?_ | refine oF ?_ | (refine Or.inr (Or.inr ⟨fun hsp=>?_,fun hsp=>?_⟩) <;>(try simp only [nm,List.length_map] at hsp) <;>try subst hsp)) | refine ⟨_,_,kK,?_⟩ | refine ⟨_,_,kC,?_⟩ | refine sS (e7 (by rfl) (by rfl) (by omega) hrow) ?_ | refine sS (O4 (f:=i4) (l:=c.keys) (a:=0) (h:=(i:Int)) (by rfl) (by rfl) (by rfl) (by omega) (by omega) (by omega)) ?_ | fail)
    all_goals (conv=>whnf)
    all_goals first
     | exact z9 (fun hp=>hk (hp.2 i x hy).1)
     | (exfalso;exact hk (Prod.ext (by assumption) (by assumption)))
     | (exfalso;apply hk;grind)
  ·repeat' ((conv=>whnf);first | (with_reducible refine sC (by kernel_rfl) ?_) | ((first | (with_reducible first | refine sB ?_ | refine z7 ?_ | refine z8 ?_) | refine sP (by rfl) ?_);first | refine oT ?_ | refine oF ?_ | (refine Or.inr (Or.inr ⟨fun hsp=>?_,fun hsp=>?_⟩) <;>(try simp only [nm,List.length_map] at hsp) <;>try subst hsp)) | fail)
   all_goals (conv=>whnf)
   all_goals exact A9 ⟨hall,fun q k hq=>hJ.2 q (by have:=(List.getElem?_eq_some_iff.1 hq).1;omega) k hq⟩
end Go.Ab.Td

/- A part of the proof: the texts TdWd, TdSj, TdZk. Under: nothing. -/
import Derived.Test.YtomfaadmmchdcaaGreatDoorG28
import Derived.Test.YtomfaadmmchdcaaGreatDoorG14
import Derived.Test.YtomfaadmmchdcaaGreatDoorG24
import Derived.Test.YtomfaadmmchdcaaGreatDoorG23
import Derived.Test.YtomfaadmmchdcaaGreatDoorG27
set_option linter.unusedVariables false
namespace Go.Ab.Td
set_option maxRecDepth 100000
set_option maxRecDepth 100000
open Go Go.Ab
variable {P:Program}
set_option linter.unusedSimpArgs false
attribute [local irreducible] e9
open Classical in
noncomputable def hOf (H:List (List PV)):List Cl:=if h:∃ h:List Cl,LeR H (h.map j8)∧H.length=h.length∧a1f h then Classical.choose h else []
theorem b5m {H:List (List PV)} (h:∃ h:List Cl,LeR H (h.map j8)∧H.length=h.length∧a1f h):LeR H ((hOf H).map j8)∧H.length=(hOf H).length∧a1f (hOf H):=by
 unfold hOf
 rw [dif_pos h]
 exact Classical.choose_spec h
theorem b8t {H:List (List PV)} {t:List Cl} {j:Nat} {row:List PV} (e:LeR H (t.map j8)) (hr:H[j]?=some row) (hk:kindOf row=3) (h2:j≤20000):fits t (dO (j:Int)):=by
 have hl:=e.len
 have hj:=(List.getElem?_eq_some_iff.1 hr).1
 obtain ⟨c,hc⟩:∃ c,t[j]?=some c:=⟨_,List.getElem?_eq_getElem (by rw [List.length_map] at hl;omega)⟩
 have q:=e.get j row (j8 c) hr (by rw [List.getElem?_map,hc];rfl)
 have k3:c.kind=3:=by
  cases q with
  | cons h t=>
    cases h with
    | refl=>exact hk
 refine ⟨?_,fun _=>⟨c,hc,k3,fun h=>absurd rfl h.1⟩⟩
 unfold Ob.right Ob.blank dO;simp;omega
theorem a8Q {a b:Ob} (h:i4 a=i4 b):a=b:=by
 obtain ⟨_,_,_,_,_,_,_⟩:=a
 obtain ⟨_,_,_,_,_,_,_⟩:=b
 simp [i4] at h
 obtain ⟨rfl,rfl,rfl,rfl,rfl,rfl,rfl⟩:=h
 rfl
theorem b9D {ld:List Ob} {r:List (List PV)} (h:ld.map i4=Q2 0::Q2 1::r):∃ d,ld=dO 0::dO 1::d:=by
 cases ld with
 | nil=>cases h
 | cons a ld=>
   cases ld with
   | nil=>simp at h
   | cons b ld=>
     simp only [List.map_cons,List.cons.injEq] at h
     have e1:a=dO 0:=a8Q h.1
     have e2:b=dO 1:=a8Q h.2.1
     exact ⟨ld,by rw [e1,e2]⟩
theorem c5O {Z:Ob→Prop} {rr:List (List PV)} (h:∀ x ∈ rr,∃ o:Ob,x=i4 o∧Z o) (lo:List Ob) (e:rr=lo.map i4):∀ o ∈ lo,Z o:=by
 intro o ho
 obtain ⟨o2,h1,h2⟩:=h (i4 o) (by rw [e];exact List.mem_map_of_mem ho)
 rw [a8Q h1];exact h2
theorem c7Q {Z:Ob→Prop} {q:PV} {m:Nat} (h:SlR q m) (hF:SlF (fun r=>∃ o:Ob,r=i4 o∧Z o) q m):∃ l:List Ob,PV.le q (.sl 7 (l.map i4))∧l.length=m∧m≤1000∧(∀ o ∈ l,o.n<9223372036854775808)∧∀ o ∈ l,Z o:=by
 rcases h with ⟨rfl,rfl⟩ | ⟨rr,rfl,h1,h2,h3⟩
 ·exact ⟨[],.emp 7,rfl,by omega,by simp,by simp⟩
 ·obtain ⟨l,e,hl⟩:=c3T h3
  have hk:∀ x ∈ rr,∃ o:Ob,x=i4 o∧Z o:=by
   rcases hF with ⟨h, -⟩ | ⟨r2,h, -,hf⟩
   ·cases h
   ·simp only [PV.sl.injEq,true_and] at h
    subst h
    exact hf
  exact ⟨l,by rw [e];exact .refl _,by rw [e] at h1;simpa using h1,h2,hl,c5O hk l e⟩
set_option maxHeartbeats 2000000 in
theorem b6J (C:Laid P) (cells ops d5:List (List PV)) (hc:∀ r ∈ cells,a1W r) (ho:∀ r ∈ ops,a1W r) (hd:∀ r ∈ d5,∃ D,r=[.int .u8 D]∧0≤D∧D<256):
 ∃ s,(b9M s∧a1f s.heap∧(∀ o ∈ s.ops,o.kind≠12)∧(∀ o ∈ s.ops,fits s.heap o)∧(∀ o ∈ s.d5,fits s.heap o)∧∃ d,s.d5=dO 0::dO 1::d)∧l3 P G y8 [.agg [.sl 5 cells,.sl 5 ops,.sl 1 d5]] [] (aS s):=by
 obtain ⟨H,O,D,⟨hH,hI⟩,⟨m,hm,hO,hK⟩,hD,h4⟩:=b7f (fun H r=>∃ o:Ob,r=i4 o∧(o.kind≠12∧fits (hOf H) o)) (fun H=>∃ h,LeR H (h.map j8)∧H.length=h.length∧a1f h) (l3 P G) cells ops d5 ho hd (b6I C cells ops d5 hc) (fun K A B N S H a b n hH hI=>by
  obtain ⟨e,hl,tv⟩:=b5m hI
  generalize hh:hOf H=h at e hl tv
  obtain ⟨r,⟨f,fr⟩,h2⟩:=b5u C tv.1 e K A B N S a b n
  exact ⟨_,⟨b4o (h:=h) ⟨_,rfl,b1O tv.1 K A B N a b n,c0E h K A B N a n⟩,_,rfl,c2I h K A B N,b1O tv.1 K A B N a b n⟩,b4C (I1 C h tv.1.small K A B N S a b n) (.cons (.refl _) (.cons (c0v e) .nil))⟩) (fun H n hH hn=>c0u C H hH.all.1 hH.all.2 3 n hn)
 obtain ⟨e1,hn0,htv⟩:=b5m hI
 generalize hh:hOf H=t at e1 hn0 htv
 have h:=a8h C (a7p C) rfl h4
 have hn:t.length=H.length:=hn0.symm
 have ht:=htv.1
 obtain ⟨lo,e2,hlo,_,hob,hlk⟩:=c7Q hO hK
 have hDt:∀ {rr:List (List PV)},(∀ r ∈ rr,∃ j:Int,r=Q2 j∧0≤j∧j<H.length)→∃ l:List Ob,rr=l.map i4∧∀ o ∈ l,∃ j:Int,o=dO j∧0≤j∧j<H.length:=by
  intro rr
  induction rr with
  | nil=>exact fun _=>⟨[],rfl,by simp⟩
  | cons r rr ih=>
    intro hx
    obtain ⟨j,rfl,hj⟩:=hx r (by simp)
    obtain ⟨l,rfl,hl⟩:=ih fun y hy=>hx y (by simp [hy])
    refine ⟨dO j::l,rfl,?_⟩
    intro y hy
    rcases List.mem_cons.1 hy with rfl | hy
    ·exact ⟨j,rfl,hj⟩
    ·exact hl y hy
 obtain ⟨⟨d1,d2,d3⟩,⟨dr,hdr⟩,dk⟩:=hD
 obtain ⟨ld,rfl,hld⟩:=hDt d3
 have hdl:∀ o ∈ ld,fits t o:=by
  intro o ho
  obtain ⟨j,row,h1,h2,h3⟩:=dk (i4 o) (List.mem_map_of_mem ho)
  have eo:o=dO (j:Int):=a8Q h1
  have hj:=(List.getElem?_eq_some_iff.1 h2).1
  subst eo
  exact b8t e1 h2 h3 (by have:=ht.len;omega)
 obtain ⟨ld2,hld2⟩:=b9D hdr
 refine ⟨mkS lo ld t,⟨⟨lo,ld,t,rfl,ht,by omega,hob,by simpa using d1,by simpa using d2,by rw [hn];exact hld⟩,htv,fun o ho=>(hlk o ho).1,fun o ho=>by have q:=(hlk o ho).2;rw [hh] at q;exact q,hdl,ld2,hld2⟩,c2J h ?_⟩
 refine o6 (.cons e2 (.cons (.refl _) (.cons (c0v e1) ?_)))
 exact .cons (.emp _) (.cons (.refl _) (.cons (.refl _) (.cons (.refl _) (.cons (.refl _) (.cons (.refl _) (.cons (.refl _) (.cons (.refl _) (.cons (.emp _) (.cons (.refl _) (.cons (.refl _) (.cons (.refl _) (.cons (.refl _) (.cons (.refl _) (.cons (.refl _) (.cons (.refl _) (.cons (.refl _) (.cons (.refl _) (.cons (.refl _) (.cons (.refl _) (.cons (.refl _) (.cons (.refl _) (.cons (.refl _) (.cons (.refl _) (.cons (.refl _) (.cons (.refl _) (.cons (.refl _) (.cons (.refl _) (.cons (.refl _) (.cons (.refl _) (.cons (.refl _) (.cons (.emp _) (.cons (.refl _) (.cons (.refl _) (.cons (.refl _) (.cons (.refl _) (.cons (.refl _) (.cons (.refl _) (.cons (.refl _) (.cons (.refl _) (.cons (.emp _) (.cons (.refl _) (.cons (.refl _) (.cons (.emp _) (.cons (.refl _) (.cons (.refl _) (.cons (.refl _) (.cons (.refl _) (.cons (.refl _) (.cons (.refl _) (.cons (.refl _) (.cons (.refl _) (.cons (.refl _) (.cons (.refl _) (.cons (.refl _) (.cons (.refl _) (.cons (.refl _) (.cons (.refl _) (.cons (.refl _) (.cons (.emp _) (.cons (.emp _) (.cons (.emp _) (.cons (.refl _) (.cons (.refl _) (.nil))))))))))))))))))))))))))))))))))))))))))))))))))))))))))))))))
end Go.Ab.Td
namespace Go.Ab.Td
set_option maxRecDepth 100000
set_option maxRecDepth 100000
open Go Go.Ab
variable {P:Program}
set_option linter.unusedSimpArgs false
attribute [local irreducible] e9
theorem ttS {p:Prop} (h:p):tt p=true:=b1B.mpr h
set_option maxHeartbeats 4000000 in
theorem a6N (C:Laid P) (s:B8):l3 P G J4 [.agg (grO s),.agg (grO s)] [] (.bool true):=by
 refine k8 C (a4w C) rfl ?_
 repeat' ((conv=>whnf);first | (with_reducible refine sC (by kernel_rfl) ?_) | ((first | (with_reducible first | refine sB ?_ | refine z7 ?_ | refine z8 ?_) | refine sP (by rfl) ?_);first | refine Or.inl ⟨by first | assumption | (simp only [nm,beq_self_eq_true,Bool.and_self,Bool.and_true,List.length_map];first | done | assumption | omega),?_⟩ | refine Or.inr (Or.inl ⟨by first | assumption | (simp only [nm,beq_self_eq_true,Bool.and_self,Bool.and_true,List.length_map];first | done | assumption | omega),?_⟩) | (refine Or.inr (Or.inr ⟨fun hsp=>?_,fun hsp=>?_⟩) <;>(try simp only [nm,beq_self_eq_true,Bool.and_self,Bool.and_true,List.length_map] at hsp) <;>try subst hsp)) | fail)
 all_goals (conv=>whnf)
 all_goals (first | exact PV.le.refl _ | (refine le_of_eq ?_;simp))
set_option maxHeartbeats 8000000 in
theorem a8m (C:Laid P) (s:B8) (l:List Sn) (ts:List B8) (h3:s.f3=l.map b3t) (h62:s.f62=ts.map grO) (hb:big s.heap) (hlb:∀ x ∈ l,big x.heap) (hll:l.length≤1000000) (htl:ts.length≤1000000) (ho:s.ops.length≤1000000) (hd:s.d5.length≤1000000):l3 P G w8 [aS s,aS s] [] (.bool true):=by
 refine k8 C (a0T C) rfl ?_
 have k1:=I2 C s.ops s.ops (by omega)
 rw [ttS rfl] at k1
 have k2:=I2 C s.d5 s.d5 (by omega)
 rw [ttS rfl] at k2
 have k3:=a7J C s.heap s.heap hb
 rw [ttS rfl] at k3
 have hl3:s.f3.length=l.length:=by rw [h3,List.length_map]
 have hl62:s.f62.length=ts.length:=by rw [h62,List.length_map]
 repeat' ((conv=>whnf);first | (with_reducible refine sC (by kernel_rfl) ?_) | ((first | (with_reducible first | refine sB ?_ | refine z7 ?_ | refine z8 ?_) | refine sP (by rfl) ?_);first | refine Or.inl ⟨by first | assumption | (simp only [nm,beq_self_eq_true,Bool.and_self,Bool.and_true,List.length_map,hl3,hl62];first | done | assumption | omega),?_⟩ | refine Or.inr (Or.inl ⟨by first | assumption | (simp only [nm,beq_self_eq_true,Bool.and_self,Bool.and_true,List.length_map,hl3,hl62];first | done | assumption | omega),?_⟩) | (refine Or.inr (Or.inr ⟨fun hsp=>?_,fun hsp=>?_⟩) <;>(try simp only [nm,beq_self_eq_true,Bool.and_self,Bool.and_true,List.length_map,hl3,hl62] at hsp) <;>try subst hsp)) | refine ⟨_,_,k1,?_⟩ | refine ⟨_,_,k2,?_⟩ | refine ⟨_,_,k3,?_⟩ | fail)
 all_goals (conv=>whnf)
 intro X hX hW
 refine a3T hX (fun st (i:Nat)=>st.upd [(5,.pv (pI (i:Int)))] []) (fun i k=>i+k=l.length) 0 l.length (by (conv=>whnf);first | done | rfl) (by omega) ?_
 intro m i ih hI
 rcases a3I l i with ⟨x,hlt,hx⟩ | hge
 ·have hrow:s.f3[(i:Int).toNat]?=some (b3t x):=by rw [h3];exact K4 (f:=b3t) hx
  have kx:=a7J C x.heap x.heap (hlb x (List.mem_of_getElem? hx))
  rw [ttS rfl] at kx
  repeat' ((conv=>whnf);first | (with_reducible refine sC (by kernel_rfl) ?_) | ((first | (with_reducible first | refine sB ?_ | refine z7 ?_ | refine z8 ?_) | refine sP (by rfl) ?_);first | refine Or.inl ⟨by first | assumption | (simp only [nm,beq_self_eq_true,Bool.and_self,Bool.and_true,List.length_map,hl3,hl62];first | done | assumption | omega),?_⟩ | refine Or.inr (Or.inl ⟨by first | assumption | (simp only [nm,beq_self_eq_true,Bool.and_self,Bool.and_true,List.length_map,hl3,hl62];first | done | assumption | omega),?_⟩) | (refine Or.inr (Or.inr ⟨fun hsp=>?_,fun hsp=>?_⟩) <;>(try simp only [nm,beq_self_eq_true,Bool.and_self,Bool.and_true,List.length_map,hl3,hl62] at hsp) <;>try subst hsp)) | refine ⟨_,_,kx,?_⟩ | refine sS (e7 (by rfl) (by rfl) (by omega) hrow) ?_ | fail)
  all_goals (conv=>whnf)
  all_goals (refine ih (m - 1) (i+1) _ (by omega) (by omega) (by (conv=>whnf);first | done | rfl | (simp (disch:=omega) only [P9])))
 ·repeat' ((conv=>whnf);first | (with_reducible refine sC (by kernel_rfl) ?_) | ((first | (with_reducible first | refine sB ?_ | refine z7 ?_ | refine z8 ?_) | refine sP (by rfl) ?_);first | refine Or.inl ⟨by first | assumption | (simp only [nm,beq_self_eq_true,Bool.and_self,Bool.and_true,List.length_map,hl3,hl62];first | done | assumption | omega),?_⟩ | refine Or.inr (Or.inl ⟨by first | assumption | (simp only [nm,beq_self_eq_true,Bool.and_self,Bool.and_true,List.length_map,hl3,hl62];first | done | assumption | omega),?_⟩) | (refine Or.inr (Or.inr ⟨fun hsp=>?_,fun hsp=>?_⟩) <;>(try simp only [nm,beq_self_eq_true,Bool.and_self,Bool.and_true,List.length_map,hl3,hl62] at hsp) <;>try subst hsp)) | fail)
  all_goals (conv=>whnf)
  intro Y hY hWY
  refine a3T hY (fun st (i:Nat)=>st.upd [(8,.pv (pI (i:Int)))] []) (fun i k=>i+k=ts.length) 0 ts.length (by (conv=>whnf);first | done | rfl) (by omega) ?_
  intro m i ih hI
  rcases a3I ts i with ⟨x,hlt,hx⟩ | hge2
  ·have hrow:s.f62[(i:Int).toNat]?=some (grO x):=by rw [h62];exact K4 (f:=grO) hx
   repeat' ((conv=>whnf);first | (with_reducible refine sC (by kernel_rfl) ?_) | ((first | (with_reducible first | refine sB ?_ | refine z7 ?_ | refine z8 ?_) | refine sP (by rfl) ?_);first | refine Or.inl ⟨by first | assumption | (simp only [nm,beq_self_eq_true,Bool.and_self,Bool.and_true,List.length_map,hl3,hl62];first | done | assumption | omega),?_⟩ | refine Or.inr (Or.inl ⟨by first | assumption | (simp only [nm,beq_self_eq_true,Bool.and_self,Bool.and_true,List.length_map,hl3,hl62];first | done | assumption | omega),?_⟩) | (refine Or.inr (Or.inr ⟨fun hsp=>?_,fun hsp=>?_⟩) <;>(try simp only [nm,beq_self_eq_true,Bool.and_self,Bool.and_true,List.length_map,hl3,hl62] at hsp) <;>try subst hsp)) | refine ⟨_,_,a6N C x,?_⟩ | refine sS (e7 (by rfl) (by rfl) (by omega) hrow) ?_ | fail)
   all_goals (conv=>whnf)
   all_goals (refine ih (m - 1) (i+1) _ (by omega) (by omega) (by (conv=>whnf);first | done | rfl | (simp (disch:=omega) only [P9])))
  ·repeat' ((conv=>whnf);first | (with_reducible refine sC (by kernel_rfl) ?_) | ((first | (with_reducible first | refine sB ?_ | refine z7 ?_ | refine z8 ?_) | refine sP (by rfl) ?_);first | refine Or.inl ⟨by first | assumption | (simp only [nm,beq_self_eq_true,Bool.and_self,Bool.and_true,List.length_map,hl3,hl62];first | done | assumption | omega),?_⟩ | refine Or.inr (Or.inl ⟨by first | assumption | (simp only [nm,beq_self_eq_true,Bool.and_self,Bool.and_true,List.length_map,hl3,hl62];first | done | assumption | omega),?_⟩) | (refine Or.inr (Or.inr ⟨fun hsp=>?_,fun hsp=>?_⟩) <;>(try simp only [nm,beq_self_eq_true,Bool.and_self,Bool.and_true,List.length_map,hl3,hl62] at hsp) <;>try subst hsp)) | refine ⟨_,_,a6N C s,?_⟩ | fail)
   all_goals (conv=>whnf)
   all_goals (first | exact PV.le.refl _ | (refine le_of_eq ?_;simp))
end Go.Ab.Td
namespace Go.Ab.Td
set_option maxRecDepth 100000
set_option maxRecDepth 100000
open Go Go.Ab
variable {P:Program}
theorem c0b {s:B8} (hst:b9M s) (hv:a1f s.heap) (hf:∀ o ∈ s.ops,fits s.heap o) (hd:∀ o ∈ s.d5,fits s.heap o):DS 20 s∧s.ops.length≤20∧s.d5.length≤6:=by
 obtain ⟨ops,d5,heap,rfl,hh,h20,hn,h2,h6,hk⟩:=hst
 refine ⟨⟨rfl,rfl,hv.dh,by show ops.length≤100;omega,hf,hn,⟨h2,by show d5.length≤20;omega⟩,hd,fun o ho=>?_⟩,h20,h6⟩
 obtain ⟨j,rfl, -⟩:=hk o ho
 rfl
theorem DS.same (C:Laid P) {m:Nat} {s:B8} (t:DS m s) (hm:m≤20000):l3 P G w8 [aS s,aS s] [] (.bool true):=a8m C s [] [] (by rw [t.h3];rfl) (by rw [t.h62];rfl) (b9d (t.dh.sm (by omega))) (by simp) (by simp) (by simp) (by have:=t.ol;omega) (by have:=t.dl;omega)
theorem c0r (C:Laid P) (cells ops d5:List (List PV)) (hc:∀ r ∈ cells,a1W r) (ho:∀ r ∈ ops,a1W r) (hd:∀ r ∈ d5,∃ D,r=[.int .u8 D]∧0≤D∧D<256):∃ s,(DS 20 s∧s.ops.length≤20∧s.d5.length≤6)∧l3 P G y8 [.agg [.sl 5 cells,.sl 5 ops,.sl 1 d5]] [] (aS s):=by
 obtain ⟨s,⟨hst,hv, -,hfo,hfd, -⟩,kst⟩:=b6J C cells ops d5 hc ho hd
 exact ⟨s,c0b hst hv hfo hfd,kst⟩
theorem b8f {h:List Cl} {m:Nat} (t:DH m h) (hm:m≤20000) (w:Wd):fits h (a6H h w.K w.A w.B w.N)∧(a6H h w.K w.A w.B w.N).n<9223372036854775808:=⟨b8w (t.vh hm) w.K w.A w.B w.N w.hA w.hB w.hN,c0E h w.K w.A w.B w.N w.hA w.hN⟩
end Go.Ab.Td

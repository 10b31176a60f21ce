/- A part of the proof: the texts TdWd, AbIx, AbOe, TdRv0, TdSk, TdRx. Under: nothing. -/
import Derived.Test.YtngmifmcohmfmaaDoorG47
import Derived.Test.YtngmifmcohmfmaaDoorG05
import Derived.Test.YtngmifmcohmfmaaDoorG04
import Derived.Test.YtngmifmcohmfmaaDoorG44
import Derived.Test.YtngmifmcohmfmaaDoorG13
import Derived.Test.YtngmifmcohmfmaaDoorG32
import Derived.Test.YtngmifmcohmfmaaDoorG28
import Derived.Test.YtngmifmcohmfmaaDoorG24
import Derived.Test.YtngmifmcohmfmaaDoorG26
import Derived.Test.YtngmifmcohmfmaaDoorG46
set_option linter.unusedVariables false
namespace Go.Ab.Td
set_option maxRecDepth 100000
set_option maxRecDepth 100000
open Go Go.Ab
variable {P:Program}
set_option linter.unusedSimpArgs false
attribute [local irreducible] e9
open Classical in
noncomputable def hOf (H:List (List PV)):List Cl:=if h:∃ h:List Cl,LeR H (h.map j8)∧H.length=h.length∧a3t h then Classical.choose h else []
theorem b7C {H:List (List PV)} (h:∃ h:List Cl,LeR H (h.map j8)∧H.length=h.length∧a3t h):LeR H ((hOf H).map j8)∧H.length=(hOf H).length∧a3t (hOf H):=by
 unfold hOf
 rw [dif_pos h]
 exact Classical.choose_spec h
theorem c1o {H:List (List PV)} {t:List Cl} {j:Nat} {row:List PV} (e:LeR H (t.map j8)) (hr:H[j]?=some row) (hk:kindOf row=3) (h2:j≤20000):fits t (dO (j:Int)):=by
 have hl:=e.len
 have hj:=(List.getElem?_eq_some_iff.1 hr).1
 obtain ⟨c,hc⟩:∃ c,t[j]?=some c:=⟨_,List.getElem?_eq_getElem (by rw [List.length_map] at hl;omega)⟩
 have q:=e.get j row (j8 c) hr (by rw [List.getElem?_map,hc];rfl)
 have k3:c.kind=3:=by
  cases q with
  | cons h t=>
    cases h with
    | refl=>exact hk
 refine ⟨?_,fun _=>⟨c,hc,k3,fun h=>absurd rfl h.1⟩⟩
 unfold Ob.right Ob.blank dO;simp;omega
theorem a9I {a b:Ob} (h:i4 a=i4 b):a=b:=by
 obtain ⟨_,_,_,_,_,_,_⟩:=a
 obtain ⟨_,_,_,_,_,_,_⟩:=b
 simp [i4] at h
 obtain ⟨rfl,rfl,rfl,rfl,rfl,rfl,rfl⟩:=h
 rfl
theorem c2A {ld:List Ob} {r:List (List PV)} (h:ld.map i4=S6 0::S6 1::r):∃ d,ld=dO 0::dO 1::d:=by
 cases ld with
 | nil=>cases h
 | cons a ld=>
   cases ld with
   | nil=>simp at h
   | cons b ld=>
     simp only [List.map_cons,List.cons.injEq] at h
     have e1:a=dO 0:=a9I h.1
     have e2:b=dO 1:=a9I h.2.1
     exact ⟨ld,by rw [e1,e2]⟩
theorem c9e {Z:Ob→Prop} {rr:List (List PV)} (h:∀ x ∈ rr,∃ o:Ob,x=i4 o∧Z o) (lo:List Ob) (e:rr=lo.map i4):∀ o ∈ lo,Z o:=by
 intro o ho
 obtain ⟨o2,h1,h2⟩:=h (i4 o) (by rw [e];exact List.mem_map_of_mem ho)
 rw [a9I h1];exact h2
theorem d0b {Z:Ob→Prop} {q:PV} {m:Nat} (h:SlR q m) (hF:SlF (fun r=>∃ o:Ob,r=i4 o∧Z o) q m):∃ l:List Ob,PV.le q (.sl 7 (l.map i4))∧l.length=m∧m≤1000∧(∀ o ∈ l,o.n<9223372036854775808)∧∀ o ∈ l,Z o:=by
 rcases h with ⟨rfl,rfl⟩ | ⟨rr,rfl,h1,h2,h3⟩
 ·exact ⟨[],.emp 7,rfl,by omega,by simp,by simp⟩
 ·obtain ⟨l,e,hl⟩:=c6p h3
  have hk:∀ x ∈ rr,∃ o:Ob,x=i4 o∧Z o:=by
   rcases hF with ⟨h, -⟩ | ⟨r2,h, -,hf⟩
   ·cases h
   ·simp only [PV.sl.injEq,true_and] at h
    subst h
    exact hf
  exact ⟨l,by rw [e];exact .refl _,by rw [e] at h1;simpa using h1,h2,hl,c9e hk l e⟩
set_option maxHeartbeats 2000000 in
theorem b8U (C:Laid P) (cells ops e6:List (List PV)) (hc:∀ r ∈ cells,a5h r) (ho:∀ r ∈ ops,a5h r) (hd:∀ r ∈ e6,∃ D,r=[.int .u8 D]∧0≤D∧D<256):
 ∃ s,(c4R s∧a3t s.heap∧(∀ o ∈ s.ops,o.kind≠12)∧(∀ o ∈ s.ops,fits s.heap o)∧(∀ o ∈ s.e6,fits s.heap o)∧∃ d,s.e6=dO 0::dO 1::d)∧j4 P G F5 [.agg [.sl 5 cells,.sl 5 ops,.sl 1 e6]] [] (aS s):=by
 obtain ⟨H,O,D,⟨hH,hI⟩,⟨m,hm,hO,hK⟩,hD,h4⟩:=b9r (fun H r=>∃ o:Ob,r=i4 o∧(o.kind≠12∧fits (hOf H) o)) (fun H=>∃ h,LeR H (h.map j8)∧H.length=h.length∧a3t h) (j4 P G) cells ops e6 ho hd (b8T C cells ops e6 hc) (fun K A B N S H a b n hH hI=>by
  obtain ⟨e,hl,tv⟩:=b7C hI
  generalize hh:hOf H=h at e hl tv
  obtain ⟨r,⟨f,fr⟩,h2⟩:=b7P C tv.1 e K A B N S a b n
  exact ⟨_,⟨b2y (h:=h) ⟨_,rfl,b3g tv.1 K A B N a b n,c0I h K A B N a n⟩,_,rfl,c0H h K A B N,b3g tv.1 K A B N a b n⟩,b0r (T9 C h tv.1.small K A B N S a b n) (.cons (.refl _) (.cons (c0D e) .nil))⟩) (fun H n hH hn=>c3o C H hH.all.1 hH.all.2 3 n hn)
 obtain ⟨e1,hn0,htv⟩:=b7C hI
 generalize hh:hOf H=t at e1 hn0 htv
 have h:=a7u C (a8b C) rfl h4
 have hn:t.length=H.length:=hn0.symm
 have ht:=htv.1
 obtain ⟨lo,e2,hlo,_,hob,hlk⟩:=d0b hO hK
 have hDt:∀ {rr:List (List PV)},(∀ r ∈ rr,∃ j:Int,r=S6 j∧0≤j∧j<H.length)→∃ l:List Ob,rr=l.map i4∧∀ o ∈ l,∃ j:Int,o=dO j∧0≤j∧j<H.length:=by
  intro rr
  induction rr with
  | nil=>exact fun _=>⟨[],rfl,by simp⟩
  | cons r rr ih=>
    intro hx
    obtain ⟨j,rfl,hj⟩:=hx r (by simp)
    obtain ⟨l,rfl,hl⟩:=ih fun y hy=>hx y (by simp [hy])
    refine ⟨dO j::l,rfl,?_⟩
    intro y hy
    rcases List.mem_cons.1 hy with rfl | hy
    ·exact ⟨j,rfl,hj⟩
    ·exact hl y hy
 obtain ⟨⟨d1,d2,d3⟩,⟨dr,hdr⟩,dk⟩:=hD
 obtain ⟨ld,rfl,hld⟩:=hDt d3
 have hdl:∀ o ∈ ld,fits t o:=by
  intro o ho
  obtain ⟨j,row,h1,h2,h3⟩:=dk (i4 o) (List.mem_map_of_mem ho)
  have eo:o=dO (j:Int):=a9I h1
  have hj:=(List.getElem?_eq_some_iff.1 h2).1
  subst eo
  exact c1o e1 h2 h3 (by have:=ht.len;omega)
 obtain ⟨ld2,hld2⟩:=c2A hdr
 refine ⟨mkS lo ld t,⟨⟨lo,ld,t,rfl,ht,by omega,hob,by simpa using d1,by simpa using d2,by rw [hn];exact hld⟩,htv,fun o ho=>(hlk o ho).1,fun o ho=>by have q:=(hlk o ho).2;rw [hh] at q;exact q,hdl,ld2,hld2⟩,c0J h ?_⟩
 refine p8 (.cons e2 (.cons (.refl _) (.cons (c0D e1) ?_)))
 exact .cons (.emp _) (.cons (.refl _) (.cons (.refl _) (.cons (.refl _) (.cons (.refl _) (.cons (.refl _) (.cons (.refl _) (.cons (.refl _) (.cons (.emp _) (.cons (.refl _) (.cons (.refl _) (.cons (.refl _) (.cons (.refl _) (.cons (.refl _) (.cons (.refl _) (.cons (.refl _) (.cons (.refl _) (.cons (.refl _) (.cons (.refl _) (.cons (.refl _) (.cons (.refl _) (.cons (.refl _) (.cons (.refl _) (.cons (.refl _) (.cons (.refl _) (.cons (.refl _) (.cons (.refl _) (.cons (.refl _) (.cons (.refl _) (.cons (.refl _) (.cons (.refl _) (.cons (.emp _) (.cons (.refl _) (.cons (.refl _) (.cons (.refl _) (.cons (.refl _) (.cons (.refl _) (.cons (.refl _) (.cons (.refl _) (.cons (.refl _) (.cons (.emp _) (.cons (.refl _) (.cons (.refl _) (.cons (.emp _) (.cons (.refl _) (.cons (.refl _) (.cons (.refl _) (.cons (.refl _) (.cons (.refl _) (.cons (.refl _) (.cons (.refl _) (.cons (.refl _) (.cons (.refl _) (.cons (.refl _) (.cons (.refl _) (.cons (.refl _) (.cons (.refl _) (.cons (.refl _) (.cons (.refl _) (.cons (.emp _) (.cons (.emp _) (.cons (.emp _) (.cons (.refl _) (.cons (.refl _) (.nil))))))))))))))))))))))))))))))))))))))))))))))))))))))))))))))))
end Go.Ab.Td
namespace Go.Ab
set_option linter.unusedSimpArgs false
section
variable {σ:b7} {nm:Nat} {ev:RA→AV}
end
end Go.Ab
namespace Go.Ab
section
variable {σ:b7} {nm es:Nat} {ev:RA→AV}
end
end Go.Ab
namespace Go.Ab
open Go.RowKit
end Go.Ab
namespace Go.Ab.Td
set_option maxRecDepth 100000
open Go Go.Ab
variable {P:Program}
set_option linter.unusedSimpArgs false
attribute [local irreducible] e9
end Go.Ab.Td
namespace Go.Ab.Td
set_option maxRecDepth 100000
open Go Go.Ab
variable {P:Program}
set_option linter.unusedSimpArgs false
attribute [local irreducible] e9
end Go.Ab.Td
namespace Go.Ab.Td
set_option maxRecDepth 100000
set_option maxRecDepth 100000
open Go Go.Ab
variable {P:Program}
set_option linter.unusedSimpArgs false
attribute [local irreducible] e9
theorem c2n {s:v9} (hst:c4R s) (hv:a3t s.heap) (hk:∀ o ∈ s.ops,o.kind≠12) (hf:∀ o ∈ s.ops,fits s.heap o) (hd:∀ o ∈ s.e6,fits s.heap o):SI True 0 {s with f45:=1} [] []∧SX {s with f45:=1}:=by
 obtain ⟨a,b⟩:=c4p hst hv hk
 exact ⟨⟨a.h3,a.h62,a.sh,a.ol,fun _=>hf,a.on,a.dl,fun _=>hd,a.ll,a.tl,a.sv,a.pw,a.made⟩,b⟩
end Go.Ab.Td

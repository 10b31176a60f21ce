/- A part of the proof: the texts TdSm, TdRm, TdHi. Under: nothing. -/
import Derived.Test.YtngmifmcohmfmaaDoorG27
import Derived.Test.YtngmifmcohmfmaaDoorG05
import Derived.Test.YtngmifmcohmfmaaDoorG25
import Derived.Test.YtngmifmcohmfmaaDoorG26
import Derived.Test.YtngmifmcohmfmaaDoorG22
set_option linter.unusedVariables false
namespace Go.Ab.Td
set_option maxRecDepth 100000
set_option maxRecDepth 100000
open Go Go.Ab
variable {P:Program}
set_option linter.unusedSimpArgs false
attribute [local irreducible] e9
theorem Cl.ext' (a b:Cl):(a=b)=(a.kind=b.kind∧a.bytes=b.bytes∧a.items=b.items∧a.keys=b.keys∧a.x7=b.x7∧a.max=b.max∧a.at'=b.at'):=by
 cases a;cases b;simp
def c7P (c:Cl):Prop:=c.keys.length<2 ^ 62∧c.x7.length<2 ^ 62∧c.items.length<2 ^ 62
def big (h:List Cl):Prop:=h.length<2 ^ 62∧∀ c ∈ h,c7P c
set_option maxHeartbeats 1000000 in
theorem a4v (C:Laid P) (a b:Cl) (ha:c7P a):j4 P G G6 [aC a,aC b] [] (.bool (tt (a=b))):=by
 refine i5 C (a1H C) rfl ?_
 obtain ⟨h1,h2,h3⟩:=ha
 have he:=Cl.ext' a b
 repeat' ((conv=>whnf);first | (with_reducible refine sC (by kernel_rfl) ?_) | ((first | (with_reducible first | refine sB ?_ | refine o5 ?_ | refine o6 ?_) | refine sP (by rfl) ?_);first | refine oT ?_ | refine oF ?_ | (refine Or.inr (Or.inr ⟨fun hsp=>?_,fun hsp=>?_⟩) <;>(try simp only [nm,List.length_map] at hsp) <;>try subst hsp)) | refine ⟨_,_,L8 C a.items b.items (by assumption),?_⟩ | refine ⟨_,_,L8 C a.keys b.keys (by assumption),?_⟩ | refine ⟨_,_,L8 C a.x7 b.x7 (by assumption),?_⟩ | fail)
 all_goals (conv=>whnf)
 all_goals (first | (with_reducible refine A0 ?_) | (with_reducible refine y3 ?_) | (refine A3 ?_;try simp (disch:=omega) only [nm,wrap_small])) <;>(grind)
set_option maxHeartbeats 1000000 in
theorem a4T (C:Laid P) (l1 l2:List Cl) (hs:big l1):j4 P G G3 [.sl 7 (List.map j8 l1),.sl 7 (List.map j8 l2)] [] (.bool (tt (l1=l2))):=by
 refine i5 C (a6q C) rfl ?_
 obtain ⟨hl,hs1⟩:=hs
 repeat' ((conv=>whnf);first | (with_reducible refine sC (by kernel_rfl) ?_) | ((first | (with_reducible first | refine sB ?_ | refine o5 ?_ | refine o6 ?_) | refine sP (by rfl) ?_);first | refine oT ?_ | refine oF ?_ | (refine Or.inr (Or.inr ⟨fun hsp=>?_,fun hsp=>?_⟩) <;>(try simp only [nm,List.length_map] at hsp) <;>try subst hsp)) | fail)
 all_goals (conv=>whnf)
 all_goals try (exact y3 (by intro e;subst e;simp_all))
 intro X hX hW
 refine a2s hX (fun st (a:Nat)=>st.upd [(5,.pv (pI (a:Int)))] []) (fun a m=>a+m=l1.length∧(l1.length=l2.length∧((l1=l2)=(l1.drop a=l2.drop a)))) 0 l1.length (by (conv=>whnf);first | done | rfl) (by simp;omega) ?_
 intro m i ih hI
 rcases a0J l1 i with ⟨x,hlt,hx⟩ | hge
 ·have hrow:=y9 (f:=j8) hx
  have hd:=W1 hx
  have hI2:=hI.2
  rw [hd] at hI2
  obtain ⟨y,hy⟩:∃ y,l2[i]?=some y:=⟨_,List.getElem?_eq_getElem (by omega)⟩
  have hrow2:=y9 (f:=j8) hy
  have hd2:=W1 hy
  rw [hd2,List.cons.injEq] at hI2
  have hxs:=hs1 x (List.mem_of_getElem? hx)
  repeat' ((conv=>whnf);first | (with_reducible refine sC (by kernel_rfl) ?_) | ((first | (with_reducible first | refine sB ?_ | refine o5 ?_ | refine o6 ?_) | refine sP (by rfl) ?_);first | refine oT ?_ | refine oF ?_ | (refine Or.inr (Or.inr ⟨fun hsp=>?_,fun hsp=>?_⟩) <;>(try simp only [nm,List.length_map] at hsp) <;>try subst hsp)) | refine ⟨_,_,a4v C x y hxs,?_⟩ | refine sS (e7 (by rfl) (by rfl) (by omega) hrow) ?_ | refine sS (e7 (by rfl) (by rfl) (by omega) hrow2) ?_ | fail)
  all_goals (conv=>whnf)
  all_goals first
   | (refine ih (m - 1) (i+1) _ (by omega) ⟨by (try dsimp only);omega,?_⟩ (by (conv=>whnf);first | done | rfl | (simp (disch:=omega) only [A7])))
   | (with_reducible first | refine j9 ?_ | refine A0 ?_ | refine y3 ?_)
   | (refine A3 ?_;simp only [nm])
   | refine le_of_eq ?_
  all_goals (first | (have hd2:l2.drop i=[]:=List.drop_eq_nil_of_le (by omega);grind) | grind)
 ·have hd:l1.drop i=[]:=List.drop_eq_nil_of_le hge
  have hI2:=hI.2
  rw [hd] at hI2
  repeat' ((conv=>whnf);first | (with_reducible refine sC (by kernel_rfl) ?_) | ((first | (with_reducible first | refine sB ?_ | refine o5 ?_ | refine o6 ?_) | refine sP (by rfl) ?_);first | refine oT ?_ | refine oF ?_ | (refine Or.inr (Or.inr ⟨fun hsp=>?_,fun hsp=>?_⟩) <;>(try simp only [nm,List.length_map] at hsp) <;>try subst hsp)) | refine ⟨_,_,a4v C x y hxs,?_⟩ | fail)
  all_goals (conv=>whnf)
  all_goals first
   | (with_reducible first | refine j9 ?_ | refine A0 ?_ | refine y3 ?_)
   | (refine A3 ?_;simp only [nm])
   | refine le_of_eq ?_
  all_goals (first | (have hd2:l2.drop i=[]:=List.drop_eq_nil_of_le (by omega);grind) | grind)
end Go.Ab.Td
namespace Go.Ab.Td
set_option maxRecDepth 100000
set_option maxRecDepth 100000
open Go Go.Ab
variable {P:Program}
set_option linter.unusedSimpArgs false
attribute [local irreducible] e9 c4X
theorem c6X {k:Ob} {l:List Ob} (h:0≤j1 k 0 l):∃ i:Nat,j1 k 0 l=(i:Int)∧i<l.length:=by
 rcases b8O k l 0 with h1 | ⟨h1,h2⟩
 ·omega
 ·exact ⟨(j1 k 0 l).toNat,by omega,by omega⟩
end Go.Ab.Td
namespace Go.Ab.Td
set_option maxRecDepth 100000
set_option maxRecDepth 100000
open Go Go.Ab
structure HI (n:Nat) (h:List Cl):Prop where
 len:10≤h.length∧h.length≤20
 cat:h[4]?=some c6K
 c7U:∀ j:Nat,5≤j→j≤9→∃ c,h[j]?=some c∧c.kind=3
 sz:∀ c ∈ h,c.keys.length≤n∧c.x7.length≤n∧c.items.length≤1000∧c.bytes.length≤4000
 shape:∀ c ∈ h,(c.kind=1→c.items=[]∧c.bytes.length≤1000)∧(c.kind=2→c.bytes=[]∧c.items.length≤1000)
 x7:∀ c ∈ h,∀ o ∈ c.x7,o.n<9223372036854775808
theorem HI.small {n:Nat} {h:List Cl} (t:HI n h) (hn:n≤1000000):small h:=
 ⟨by have:=t.len;omega,fun c hc=>by obtain ⟨a,b,c,d⟩:=t.sz c hc;exact ⟨by omega,by omega,by omega,by omega⟩⟩
theorem b6V {l:List Ob} {m:Nat} (h:SlR (.sl 7 (l.map i4)) m):l.length≤1000:=by
 rcases h with ⟨h, -⟩ | ⟨rr,h,hl,hm, -⟩
 ·cases h
 ·simp only [PV.sl.injEq,true_and] at h
  subst h
  simp only [List.length_map] at hl
  omega
theorem a7Z.lens {c:Cl} (h:a7Z c):c.keys.length≤1000∧c.x7.length≤1000∧c.items.length≤1000∧c.bytes.length≤4000:=by
 obtain ⟨-, -,k,b,q1,q2,q3,mx,a,m1,m2,m3,he,hb,h1,h2,h3⟩:=h
 simp only [j8,List.cons.injEq,PV.int.injEq,PV.str.injEq,true_and] at he
 obtain ⟨-,e2,e3,e4,e5, -⟩:=he
 subst e2 e3 e4 e5
 exact ⟨b6V h2,b6V h3,b6V h1,hb.1⟩
theorem a2E.hi {h:List Cl} (t:a2E h):HI 1000 h:=by
 have hok:=t.ok
 have hl:=t.len
 obtain ⟨h4,h5,h10⟩:=c5b t
 exact ⟨⟨h10,hl⟩,h4,fun j a b=>⟨_,h5 j a b,rfl⟩,fun c hc=>(hok c hc).lens,fun c hc=>(hok c hc).shape,fun c hc=>(hok c hc).2.1⟩
theorem c1O {c c':Cl} {k v:Ob} (hp:a2L c k v=some c'):c'.kind=c.kind∧c'.bytes=c.bytes∧c'.items=c.items∧c'.keys.length≤c.keys.length+1∧c'.x7.length≤c.x7.length+1∧∀ o ∈ c'.x7,o ∈ c.x7∨o=v:=by
 unfold a2L at hp
 split at hp
 ·cases hp
  refine ⟨rfl,rfl,rfl,by dsimp only;omega,by dsimp only;rw [List.length_set];omega,fun o ho=>?_⟩
  exact List.mem_or_eq_of_mem_set ho
 ·split at hp
  ·cases hp
  ·cases hp
   refine ⟨rfl,rfl,rfl,by dsimp only;rw [List.length_append];simp,by dsimp only;rw [List.length_append];simp,fun o ho=>?_⟩
   dsimp only at ho
   rcases List.mem_append.1 ho with h | h
   ·exact .inl h
   ·exact .inr (by simpa using h)
theorem HI.put {n:Nat} {h:List Cl} (t:HI n h) {j:Nat} (h5:5≤j) (h9:j≤9) {c c':Cl} (hc:h[j]?=some c) {k v:Ob} (hp:a2L c k v=some c') (hv:v.n<9223372036854775808):HI (n+1) (h.set j c'):=by
 obtain ⟨p1,p2,p3,p4,p5,p6⟩:=c1O hp
 have hm:=List.mem_of_getElem? hc
 have hck:c.kind=3:=by
  obtain ⟨d,hd,hk⟩:=t.c7U j h5 h9
  rw [hc] at hd;cases hd;exact hk
 have mem:∀ x ∈ h.set j c',x ∈ h∨x=c':=fun x hx=>List.mem_or_eq_of_mem_set hx
 refine ⟨by rw [List.length_set];exact t.len,?_,fun i a b=>?_,fun x hx=>?_,fun x hx=>?_,fun x hx=>?_⟩
 ·rw [List.getElem?_set_ne (by omega)];exact t.cat
 ·by_cases hij:j=i
  ·subst hij
   rw [List.getElem?_set_self (by have:=(List.getElem?_eq_some_iff.1 hc).1;exact this)]
   exact ⟨c',rfl,by rw [p1];exact hck⟩
  ·rw [List.getElem?_set_ne hij];exact t.c7U i a b
 ·rcases mem x hx with hx | rfl
  ·obtain ⟨a,b,c,d⟩:=t.sz x hx;exact ⟨by omega,by omega,c,d⟩
  ·obtain ⟨a,b,cc,d⟩:=t.sz c hm
   exact ⟨by omega,by omega,by rw [p3];exact cc,by rw [p2];exact d⟩
 ·rcases mem x hx with hx | rfl
  ·exact t.shape x hx
  ·exact ⟨fun hk=>by omega,fun hk=>by omega⟩
 ·rcases mem x hx with hx | rfl
  ·exact t.x7 x hx
  ·intro o ho
   rcases p6 o ho with h | rfl
   ·exact t.x7 c hm o h
   ·exact hv
end Go.Ab.Td

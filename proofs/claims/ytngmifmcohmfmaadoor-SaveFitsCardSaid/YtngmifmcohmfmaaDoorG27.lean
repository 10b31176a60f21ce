/- A part of the proof: the texts TdSm, TdRm, TdHi. Under: nothing. -/
import Derived.Test.YtngmifmcohmfmaaDoorG26
import Derived.Test.YtngmifmcohmfmaaDoorG05
import Derived.Test.YtngmifmcohmfmaaDoorG24
import Derived.Test.YtngmifmcohmfmaaDoorG25
import Derived.Test.YtngmifmcohmfmaaDoorG21
set_option linter.unusedVariables false
namespace Go.Ab.Td
set_option maxRecDepth 100000
set_option maxRecDepth 100000
open Go Go.Ab
variable {P:Program}
set_option linter.unusedSimpArgs false
attribute [local irreducible] f0
theorem Cl.ext' (a b:Cl):(a=b)=(a.kind=b.kind∧a.bytes=b.bytes∧a.items=b.items∧a.keys=b.keys∧a.x8=b.x8∧a.max=b.max∧a.at'=b.at'):=by
 cases a;cases b;simp
def c7z (c:Cl):Prop:=c.keys.length<2 ^ 62∧c.x8.length<2 ^ 62∧c.items.length<2 ^ 62
def big (h:List Cl):Prop:=h.length<2 ^ 62∧∀ c ∈ h,c7z c
set_option maxHeartbeats 1000000 in
theorem a4o (C:Laid P) (a b:Cl) (ha:c7z a):j5 P G G1 [aC a,aC b] [] (.bool (tt (a=b))):=by
 refine i5 C (a1F C) rfl ?_
 obtain ⟨h1,h2,h3⟩:=ha
 have he:=Cl.ext' a b
 repeat' ((conv=>whnf);first | (with_reducible refine sC (by kernel_rfl) ?_) | ((first | (with_reducible first | refine sB ?_ | refine p8 ?_ | refine p9 ?_) | refine sP (by rfl) ?_);first | refine oT ?_ | refine oF ?_ | (refine Or.inr (Or.inr ⟨fun hsp=>?_,fun hsp=>?_⟩) <;>(try simp only [nm,List.length_map] at hsp) <;>try subst hsp)) | refine ⟨_,_,L2 C a.items b.items (by assumption),?_⟩ | refine ⟨_,_,L2 C a.keys b.keys (by assumption),?_⟩ | refine ⟨_,_,L2 C a.x8 b.x8 (by assumption),?_⟩ | fail)
 all_goals (conv=>whnf)
 all_goals (first | (with_reducible refine A3 ?_) | (with_reducible refine y5 ?_) | (refine A4 ?_;try simp (disch:=omega) only [nm,wrap_small])) <;>(grind)
set_option maxHeartbeats 1000000 in
theorem a8p (C:Laid P) (l1 l2:List Cl) (hs:big l1):j5 P G Q0 [.sl 7 (List.map j6 l1),.sl 7 (List.map j6 l2)] [] (.bool (tt (l1=l2))):=by
 refine i5 C (a5Z C) rfl ?_
 obtain ⟨hl,hs1⟩:=hs
 repeat' ((conv=>whnf);first | (with_reducible refine sC (by kernel_rfl) ?_) | ((first | (with_reducible first | refine sB ?_ | refine p8 ?_ | refine p9 ?_) | refine sP (by rfl) ?_);first | refine oT ?_ | refine oF ?_ | (refine Or.inr (Or.inr ⟨fun hsp=>?_,fun hsp=>?_⟩) <;>(try simp only [nm,List.length_map] at hsp) <;>try subst hsp)) | fail)
 all_goals (conv=>whnf)
 all_goals try (exact y5 (by intro e;subst e;simp_all))
 intro X hX hW
 refine a2p hX (fun st (a:Nat)=>st.upd [(5,.pv (pI (a:Int)))] []) (fun a m=>a+m=l1.length∧(l1.length=l2.length∧((l1=l2)=(l1.drop a=l2.drop a)))) 0 l1.length (by (conv=>whnf);first | done | rfl) (by simp;omega) ?_
 intro m i ih hI
 rcases a0t l1 i with ⟨x,hlt,hx⟩ | hge
 ·have hrow:=y3 (f:=j6) hx
  have hd:=Z8 hx
  have hI2:=hI.2
  rw [hd] at hI2
  obtain ⟨y,hy⟩:∃ y,l2[i]?=some y:=⟨_,List.getElem?_eq_getElem (by omega)⟩
  have hrow2:=y3 (f:=j6) hy
  have hd2:=Z8 hy
  rw [hd2,List.cons.injEq] at hI2
  have hxs:=hs1 x (List.mem_of_getElem? hx)
  repeat' ((conv=>whnf);first | (with_reducible refine sC (by kernel_rfl) ?_) | ((first | (with_reducible first | refine sB ?_ | refine p8 ?_ | refine p9 ?_) | refine sP (by rfl) ?_);first | refine oT ?_ | refine oF ?_ | (refine Or.inr (Or.inr ⟨fun hsp=>?_,fun hsp=>?_⟩) <;>(try simp only [nm,List.length_map] at hsp) <;>try subst hsp)) | refine ⟨_,_,a4o C x y hxs,?_⟩ | refine sS (e7 (by rfl) (by rfl) (by omega) hrow) ?_ | refine sS (e7 (by rfl) (by rfl) (by omega) hrow2) ?_ | fail)
  all_goals (conv=>whnf)
  all_goals first
   | (refine ih (m - 1) (i+1) _ (by omega) ⟨by (try dsimp only);omega,?_⟩ (by (conv=>whnf);first | done | rfl | (simp (disch:=omega) only [A0])))
   | (with_reducible first | refine l0 ?_ | refine A3 ?_ | refine y5 ?_)
   | (refine A4 ?_;simp only [nm])
   | refine le_of_eq ?_
  all_goals (first | (have hd2:l2.drop i=[]:=List.drop_eq_nil_of_le (by omega);grind) | grind)
 ·have hd:l1.drop i=[]:=List.drop_eq_nil_of_le hge
  have hI2:=hI.2
  rw [hd] at hI2
  repeat' ((conv=>whnf);first | (with_reducible refine sC (by kernel_rfl) ?_) | ((first | (with_reducible first | refine sB ?_ | refine p8 ?_ | refine p9 ?_) | refine sP (by rfl) ?_);first | refine oT ?_ | refine oF ?_ | (refine Or.inr (Or.inr ⟨fun hsp=>?_,fun hsp=>?_⟩) <;>(try simp only [nm,List.length_map] at hsp) <;>try subst hsp)) | refine ⟨_,_,a4o C x y hxs,?_⟩ | fail)
  all_goals (conv=>whnf)
  all_goals first
   | (with_reducible first | refine l0 ?_ | refine A3 ?_ | refine y5 ?_)
   | (refine A4 ?_;simp only [nm])
   | refine le_of_eq ?_
  all_goals (first | (have hd2:l2.drop i=[]:=List.drop_eq_nil_of_le (by omega);grind) | grind)
end Go.Ab.Td
namespace Go.Ab.Td
set_option maxRecDepth 100000
set_option maxRecDepth 100000
open Go Go.Ab
variable {P:Program}
set_option linter.unusedSimpArgs false
attribute [local irreducible] f0 c4A
theorem c3a (C:Laid P) (x:Ob) (l:List Ob) (hl:l.length≤1000000):j5 P G k7 [.sl 7 (List.map g8 (x::l))] [(0,0)] (.sl 7 (List.map g8 (x::l))):=by
 refine b5m C.mixed (H2 C) (ext:=noX) (fun _ _ h=>by cases h) (tab:=noT) (w9:=noT) (d:=0) (fun _ _ h=>by cases h) (fun _ _ h=>by cases h) rfl ?_
 repeat' ((conv=>whnf);first | (with_reducible refine sC (by kernel_rfl) ?_) | ((first | (with_reducible first | refine sB ?_ | refine p8 ?_ | refine p9 ?_) | refine sP (by rfl) ?_);first | refine oT ?_ | refine oF ?_ | (refine Or.inr (Or.inr ⟨fun hsp=>?_,fun hsp=>?_⟩) <;>(try simp only [nm] at hsp) <;>try subst hsp)) | refine sS (j2 (f:=g8) (l:=([]:List Ob)) (x':=x::l) (by rfl) (by rfl) (by rfl) (by first | exact d7 | exact b8 | exact b9 (by rfl) (by rfl)) (by rfl) (by simp only [List.length_cons,List.length_nil];omega)) ?_ | fail)
 all_goals (conv=>whnf)
 refine ⟨20,[],?_,?_⟩
 ·show some [AV.own 20 0 (([]:List Ob).length+(x::l).length)]=_
  simp
 ·rfl
theorem c6C {k:Ob} {l:List Ob} (h:0≤i9 k 0 l):∃ i:Nat,i9 k 0 l=(i:Int)∧i<l.length:=by
 rcases b8w k l 0 with h1 | ⟨h1,h2⟩
 ·omega
 ·exact ⟨(i9 k 0 l).toNat,by omega,by omega⟩
end Go.Ab.Td
namespace Go.Ab.Td
set_option maxRecDepth 100000
set_option maxRecDepth 100000
open Go Go.Ab
structure HI (n:Nat) (h:List Cl):Prop where
 len:10≤h.length∧h.length≤20
 cat:h[4]?=some c6p
 c7E:∀ j:Nat,5≤j→j≤9→∃ c,h[j]?=some c∧c.kind=3
 sz:∀ c ∈ h,c.keys.length≤n∧c.x8.length≤n∧c.items.length≤1000∧c.bytes.length≤4000
 shape:∀ c ∈ h,(c.kind=1→c.items=[]∧c.bytes.length≤1000)∧(c.kind=2→c.bytes=[]∧c.items.length≤1000)
 x8:∀ c ∈ h,∀ o ∈ c.x8,o.n<9223372036854775808
theorem HI.small {n:Nat} {h:List Cl} (t:HI n h) (hn:n≤1000000):small h:=
 ⟨by have:=t.len;omega,fun c hc=>by obtain ⟨a,b,c,d⟩:=t.sz c hc;exact ⟨by omega,by omega,by omega,by omega⟩⟩
theorem b6G {l:List Ob} {m:Nat} (h:SlR (.sl 7 (l.map g8)) m):l.length≤1000:=by
 rcases h with ⟨h, -⟩ | ⟨rr,h,hl,hm, -⟩
 ·cases h
 ·simp only [PV.sl.injEq,true_and] at h
  subst h
  simp only [List.length_map] at hl
  omega
theorem a7K.lens {c:Cl} (h:a7K c):c.keys.length≤1000∧c.x8.length≤1000∧c.items.length≤1000∧c.bytes.length≤4000:=by
 obtain ⟨-, -,k,b,q1,q2,q3,mx,a,m1,m2,m3,he,hb,h1,h2,h3⟩:=h
 simp only [j6,List.cons.injEq,PV.int.injEq,PV.str.injEq,true_and] at he
 obtain ⟨-,e2,e3,e4,e5, -⟩:=he
 subst e2 e3 e4 e5
 exact ⟨b6G h2,b6G h3,b6G h1,hb.1⟩
theorem a2D.hi {h:List Cl} (t:a2D h):HI 1000 h:=by
 have hok:=t.ok
 have hl:=t.len
 obtain ⟨h4,h5,h10⟩:=c4E t
 exact ⟨⟨h10,hl⟩,h4,fun j a b=>⟨_,h5 j a b,rfl⟩,fun c hc=>(hok c hc).lens,fun c hc=>(hok c hc).shape,fun c hc=>(hok c hc).2.1⟩
theorem c0V {c c':Cl} {k v:Ob} (hp:a2L c k v=some c'):c'.kind=c.kind∧c'.bytes=c.bytes∧c'.items=c.items∧c'.keys.length≤c.keys.length+1∧c'.x8.length≤c.x8.length+1∧∀ o ∈ c'.x8,o ∈ c.x8∨o=v:=by
 unfold a2L at hp
 split at hp
 ·cases hp
  refine ⟨rfl,rfl,rfl,by dsimp only;omega,by dsimp only;rw [List.length_set];omega,fun o ho=>?_⟩
  exact List.mem_or_eq_of_mem_set ho
 ·split at hp
  ·cases hp
  ·cases hp
   refine ⟨rfl,rfl,rfl,by dsimp only;rw [List.length_append];simp,by dsimp only;rw [List.length_append];simp,fun o ho=>?_⟩
   dsimp only at ho
   rcases List.mem_append.1 ho with h | h
   ·exact .inl h
   ·exact .inr (by simpa using h)
theorem HI.put {n:Nat} {h:List Cl} (t:HI n h) {j:Nat} (h5:5≤j) (h9:j≤9) {c c':Cl} (hc:h[j]?=some c) {k v:Ob} (hp:a2L c k v=some c') (hv:v.n<9223372036854775808):HI (n+1) (h.set j c'):=by
 obtain ⟨p1,p2,p3,p4,p5,p6⟩:=c0V hp
 have hm:=List.mem_of_getElem? hc
 have hck:c.kind=3:=by
  obtain ⟨d,hd,hk⟩:=t.c7E j h5 h9
  rw [hc] at hd;cases hd;exact hk
 have mem:∀ x ∈ h.set j c',x ∈ h∨x=c':=fun x hx=>List.mem_or_eq_of_mem_set hx
 refine ⟨by rw [List.length_set];exact t.len,?_,fun i a b=>?_,fun x hx=>?_,fun x hx=>?_,fun x hx=>?_⟩
 ·rw [List.getElem?_set_ne (by omega)];exact t.cat
 ·by_cases hij:j=i
  ·subst hij
   rw [List.getElem?_set_self (by have:=(List.getElem?_eq_some_iff.1 hc).1;exact this)]
   exact ⟨c',rfl,by rw [p1];exact hck⟩
  ·rw [List.getElem?_set_ne hij];exact t.c7E i a b
 ·rcases mem x hx with hx | rfl
  ·obtain ⟨a,b,c,d⟩:=t.sz x hx;exact ⟨by omega,by omega,c,d⟩
  ·obtain ⟨a,b,cc,d⟩:=t.sz c hm
   exact ⟨by omega,by omega,by rw [p3];exact cc,by rw [p2];exact d⟩
 ·rcases mem x hx with hx | rfl
  ·exact t.shape x hx
  ·exact ⟨fun hk=>by omega,fun hk=>by omega⟩
 ·rcases mem x hx with hx | rfl
  ·exact t.x8 x hx
  ·intro o ho
   rcases p6 o ho with h | rfl
   ·exact t.x8 c hm o h
   ·exact hv
end Go.Ab.Td

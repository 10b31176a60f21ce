/- A part of the proof: the texts TdWs, TdWk, TdSa, TdSb, TdSc, TdSd, TdVx, TdVy, TdWd1, TdWd. Under: nothing. -/
import Derived.Test.YtomfaadmmchdcaaDoorG41
import Derived.Test.YtomfaadmmchdcaaDoorG21
import Derived.Test.YtomfaadmmchdcaaDoorG17
import Derived.Test.YtomfaadmmchdcaaDoorG05
set_option linter.unusedVariables false
namespace Go.Ab.Td
set_option maxRecDepth 100000
open Go Go.Ab
variable {P:Program}
attribute [local irreducible] g8
end Go.Ab.Td
namespace Go.Ab.Td
set_option maxRecDepth 100000
set_option maxRecDepth 100000
open Go Go.Ab
variable {P:Program}
set_option linter.unusedSimpArgs false
theorem a2s {p:Prop} [Decidable p] {a b:Ob} (h1:a.kind≠12) (h2:b.kind≠12):(if p then a else b).kind≠12:=by
 by_cases hp:p
 ·rw [if_pos hp];exact h1
 ·rw [if_neg hp];exact h2
theorem c1z (h:List Cl) (kd cl A B N:Int) (hk:kd≠12):(a2w h kd cl A B N).kind≠12:=by
 unfold a2w
 dsimp only
 exact a2s (by first | (simp;done) | (simp [A2];done)) (a2s hk (a2s hk hk))
theorem c3d (h:List Cl) (K A B N:Int):(a9m h K A B N).kind≠12:=by
 have hp:=fun kd cl hk=>c1z h kd cl A B N hk
 unfold a9m
 exact a2s (by first | (simp;done) | (simp [A2];done)) (a2s (by first | (simp;done) | (simp [A2];done)) (a2s (by first | (simp;done) | (simp [A2];done)) (a2s (by first | (simp;done) | (simp [A2];done)) (a2s (by first | (simp;done) | (simp [A2];done)) (a2s (by first | (simp;done) | (simp [A2];done)) (a2s (by first | (simp;done) | (simp [A2];done)) (a2s (by first | (simp;done) | (simp [A2];done)) (a2s (hp 6 1 (by decide)) (a2s (hp 7 2 (by decide)) (a2s (hp 8 2 (by decide)) (a2s (hp 9 3 (by decide)) (a2s (by first | (simp;done) | (simp [A2];done)) (hp 11 4 (by decide))))))))))))))
end Go.Ab.Td
namespace Go.Ab.Td
set_option maxRecDepth 100000
open Go Go.Ab
variable {P:Program}
set_option linter.unusedSimpArgs false
attribute [local irreducible] g8
structure Sn where
 n:Int
 heap:List Cl
 st:Int
def b3R (x:Sn):List PV:=[.int .i64 x.n,.sl 7 (x.heap.map j6),.int .i64 x.st]
def b7A (cells:Int) (o:Ob):Prop:=o.comp∧cells≤o.ref
end Go.Ab.Td
namespace Go.Ab.Td
set_option maxRecDepth 100000
open Go Go.Ab
variable {P:Program}
set_option linter.unusedSimpArgs false
attribute [local irreducible] g8
end Go.Ab.Td
namespace Go.Ab.Td
set_option maxRecDepth 100000
open Go Go.Ab
variable {P:Program}
set_option linter.unusedSimpArgs false
attribute [local irreducible] g8
def grO (s:C3):List PV:=[.int .i64 s.f5,.int .i64 s.f6,.int .i64 s.f7,.int .i64 s.f8,.int .i64 s.f9,.int .i64 s.f10,.sl 7 s.f11,.int .i64 s.f12,.int .i64 s.f13,.int .i64 s.f14,.int .i64 s.f15,.int .i64 s.f16,.int .i64 s.f17,.int .i64 s.f18,.int .i64 s.f19,.int .i64 s.f20,.int .i64 s.f21,.int .i64 s.f22,.int .i64 s.f23,.int .i64 s.f24,.int .i64 s.f25,.int .i64 s.f26,.int .i64 s.f27,.int .i64 s.f28,.int .i64 s.f29,.int .i64 s.f30,.int .i64 s.f31,.bool s.f32,.bool s.f33,.sl 47 s.f34,.int .i64 s.f35,.int .i64 s.f36,.int .i64 s.f37,.int .i64 s.f38,.int .i64 s.f39,.int .i64 s.f40,.int .i64 s.f41,.int .i64 s.f42,.sl 1 s.f43,.int .i64 s.f44,.int .i64 s.f45,.sl 2 s.f46,.int .i64 s.f47,.bool s.f48,.int .i64 s.f49,.str s.f50,.int .i64 s.f51,.int .i64 s.f52,.int .i64 s.f53,.int .i64 s.f54,.int .i64 s.f55,.int .i64 s.f56,.int .i64 s.f57,.int .i64 s.f58,.int .i64 s.f59,.int .i64 s.f60,.int .i64 s.f61]
def svO (n:Int):Ob:=⟨12,false,n,[],0,0,0⟩
def svS (s:C3):C3:={s with ops:=s.ops++[svO (IntKind.i64.wrap (s.f4+1))],f4:=IntKind.i64.wrap (s.f4+1),f3:=s.f3++[[.int .i64 (IntKind.i64.wrap (s.f4+1)),.sl 7 (s.heap.map j6),.int .i64 (s.f62.length:Int)]],f62:=s.f62++[grO s]}
end Go.Ab.Td
namespace Go.Ab.Td
set_option maxRecDepth 100000
open Go Go.Ab
variable {P:Program}
set_option linter.unusedSimpArgs false
attribute [local irreducible] g8
def rsS (s:C3) (lo:List Ob) (xh:List Cl) (t:C3) (i j:Nat):C3:={s with ops:=lo,heap:=xh,f3:=s.f3.take i,f62:=s.f62.take j,f5:=t.f5,f6:=t.f6,f7:=t.f7,f8:=t.f8,f9:=t.f9,f10:=t.f10,f11:=t.f11,f12:=t.f12,f13:=t.f13,f14:=t.f14,f15:=t.f15,f16:=t.f16,f17:=t.f17,f18:=t.f18,f19:=t.f19,f20:=t.f20,f21:=t.f21,f22:=t.f22,f23:=t.f23,f24:=t.f24,f25:=t.f25,f26:=t.f26,f27:=t.f27,f28:=t.f28,f29:=t.f29,f30:=t.f30,f31:=t.f31,f32:=t.f32,f33:=t.f33,f34:=t.f34,f35:=t.f35,f36:=t.f36,f37:=t.f37,f38:=t.f38,f39:=t.f39,f40:=t.f40,f41:=t.f41,f42:=t.f42,f43:=t.f43,f44:=t.f44,f45:=t.f45,f46:=t.f46,f47:=t.f47,f48:=t.f48,f49:=t.f49,f50:=t.f50,f51:=t.f51,f52:=t.f52,f53:=t.f53,f54:=t.f54,f55:=t.f55,f56:=t.f56,f57:=t.f57,f58:=t.f58,f59:=t.f59,f60:=t.f60,f61:=t.f61}
end Go.Ab.Td
namespace Go.Ab.Td
set_option maxRecDepth 100000
set_option maxRecDepth 100000
open Go Go.Ab
variable {P:Program}
set_option linter.unusedSimpArgs false
def VH (h:List Cl):Prop:=a8q h∧h.length≤20000
theorem VH.small {h:List Cl} (t:VH h):small h:=b0Q t.1 (by have:=t.2;omega)
end Go.Ab.Td
namespace Go.Ab.Td
set_option maxRecDepth 100000
set_option maxRecDepth 100000
open Go Go.Ab
set_option linter.unusedSimpArgs false
def a3D (h' h:List Cl):Prop:=h'.length≤h.length∧∀ (k:Nat) (c':Cl),h'[k]?=some c'→∃ c,h[k]?=some c∧c.kind=c'.kind∧(c.kind=3∨c.length=c'.length)
theorem a3D.refl (h:List Cl):a3D h h:=⟨Nat.le_refl _,fun _ c hc=>⟨c,hc,rfl,.inr rfl⟩⟩
theorem a3D.trans {a b c:List Cl} (h1:a3D a b) (h2:a3D b c):a3D a c:=by
 refine ⟨Nat.le_trans h1.1 h2.1,fun k x hx=>?_⟩
 obtain ⟨y,hy,e1,e2⟩:=h1.2 k x hx
 obtain ⟨z,hz,f1,f2⟩:=h2.2 k y hy
 refine ⟨z,hz,by rw [f1,e1],?_⟩
 rcases f2 with f2 | f2
 ·exact .inl f2
 ·rcases e2 with e2 | e2
  ·exact .inl (by rw [f1];exact e2)
  ·exact .inr (by rw [f2,e2])
theorem a3D.app (h more:List Cl):a3D h (h++more):=
 ⟨by simp,fun k c hc=>⟨c,by rw [List.getElem?_append_left (List.getElem?_eq_some_iff.1 hc).1];exact hc,rfl,.inr rfl⟩⟩
theorem a3D.set {h:List Cl} {j:Nat} {c c':Cl} (hc:h[j]?=some c) (hk:c'.kind=c.kind) (hl:c'.kind=3∨c'.length=c.length):a3D h (h.set j c'):=by
 refine ⟨by simp,fun k x hx=>?_⟩
 by_cases e:j=k
 ·subst e
  rw [hc] at hx
  cases hx
  exact ⟨c',List.getElem?_set_self (List.getElem?_eq_some_iff.1 hc).1,hk,hl⟩
 ·exact ⟨x,by rw [List.getElem?_set_ne e];exact hx,rfl,.inr rfl⟩
theorem c0U (o:Ob):o.comp↔G0 o.kind≠0:=by
 unfold Ob.comp
 rcases a3G o.kind with ⟨h,e⟩ | ⟨h,e⟩ | ⟨h,e⟩ | ⟨h,e⟩ | ⟨h1,h2,h3,h4,h5,e⟩
 ·rw [e];omega
 ·rw [e];omega
 ·rw [e];omega
 ·rw [e];omega
 ·rw [e];omega
theorem c5c {k:Int} (h:G0 k=3):k=9:=by
 rcases a3G k with ⟨_,e⟩ | ⟨_,e⟩ | ⟨h9,e⟩ | ⟨_,e⟩ | ⟨_,_,_,_,_,e⟩ <;>omega
theorem b1Z {h' h:List Cl} (ho:a3D h' h) {o:Ob} (hf:fits h o) (hn:¬ b7A h'.length o):fits h' o:=by
 refine ⟨hf.1,fun hk=>?_⟩
 obtain ⟨c,hc,h1,h2⟩:=hf.2 hk
 have hr:=(a4S hf.1).1
 have hlt:o.ref<h'.length:=by
  have:¬ ((h'.length:Int)≤o.ref):=fun x=>hn ⟨(c0U o).2 hk,x⟩
  omega
 obtain ⟨c',hc'⟩:∃ c',h'[o.ref.toNat]?=some c':=⟨_,List.getElem?_eq_getElem (by omega)⟩
 obtain ⟨d,hd,e1,e2⟩:=ho.2 _ c' hc'
 rw [hc] at hd
 cases hd
 refine ⟨c',hc',by rw [← e1];exact h1,fun h9=>?_⟩
 rcases e2 with e2 | e2
 ·have:=c5c (k:=o.kind) (by rw [← h1];exact e2)
  omega
 ·rw [← e2];exact h2 h9
structure SH (h:List Cl):Prop where
 v:a8q h
 len:10≤h.length∧h.length≤60
 tot:0≤R6 0 h∧R6 0 h≤704+41*((h.length:Int) - 10)
 nc:∀ c ∈ h,nC c
theorem SH.vh {h:List Cl} (t:SH h):VH h:=⟨t.v,by have:=t.len;omega⟩
theorem SH.sm {h:List Cl} (t:SH h):small h:=t.vh.small
theorem SH.app {h:List Cl} (t:SH h) (hl:h.length<60) {c:Cl} (h1:a7T c) (h2:W7 h c) (h3:0≤c.size) (h4:c.size≤41):SH (h++[c]):=by
 obtain ⟨hv,⟨l1,l2⟩,⟨q1,q2⟩,hn⟩:=t
 have e:R6 0 (h++[c])=R6 0 h+c.size:=by rw [b5F,wrap_small (by omega) (by omega)]
 have el:(h++[c]).length=h.length+1:=by simp
 refine ⟨⟨fun d hd=>?_,by rw [e];omega⟩,by omega,by rw [e,el];omega,fun d hd=>?_⟩
 ·rcases List.mem_append.1 hd with hd | hd
  ·exact a1q (fun o ho=>a8S ho) (hv.1 d hd)
  ·simp only [List.mem_singleton] at hd;subst hd;exact a1q (fun o ho=>a8S ho) h2
 ·rcases List.mem_append.1 hd with hd | hd
  ·exact hn d hd
  ·simp only [List.mem_singleton] at hd;subst hd;exact a7T.nC h1
theorem SH.set {h:List Cl} (t:SH h) {j:Nat} {c c':Cl} (hc:h[j]?=some c) (hk:c'.kind=c.kind) (hl:c'.kind=3∨c'.kind=4∨c'.length=c.length) (hs:c'.size=c.size) (hr:W7 h c') (hn:nC c'):SH (h.set j c'):=
 ⟨b4r t.v hc hk hl hs hr,by rw [List.length_set];exact t.len,by rw [b5G hs h j 0 hc,List.length_set];exact t.tot,c1p t.nc hn j⟩
structure SI (F:Prop) (m:Nat) (s:C3) (l:List Sn) (ts:List C3):Prop where
 h3:s.f3=l.map b3R
 h62:s.f62=ts.map grO
 sh:SH s.heap
 ol:s.ops.length≤100
 of':F→∀ o ∈ s.ops,fits s.heap o
 on:∀ o ∈ s.ops,o.n<9223372036854775808
 dl:s.j8.length≤20
 df:F→∀ o ∈ s.j8,fits s.heap o
 ll:l.length≤10
 tl:ts.length=l.length
 sv:∀ (i:Nat) (x:Sn),l[i]?=some x→x.st=(i:Int)∧SH x.heap∧a3D x.heap s.heap
 pw:∀ (i k:Nat) (x y:Sn),i<k→l[i]?=some x→l[k]?=some y→a3D x.heap y.heap
 made:0≤s.f4∧s.f4≤m
theorem SI.more {F:Prop} {m n:Nat} {s:C3} {l:List Sn} {ts:List C3} (t:SI F m s l ts) (h:m≤n):SI F n s l ts:=
 {t with made:=⟨t.made.1,by have:=t.made.2;omega⟩}
theorem c0r {n:Int} (h:1≤n):(svO n).right:=by
 unfold svO Ob.right Ob.blank;simp;omega
theorem SI.save {F:Prop} {m:Nat} {s:C3} {l:List Sn} {ts:List C3} (t:SI F m s l ts) (hm:m<1000000) (hl:l.length<10) (ho:s.ops.length<100):SI F (m+1) (svS s) (l++[(⟨s.f4+1,s.heap,(l.length:Int)⟩:Sn)]) (ts++[s]):=by
 have hmd:=t.made
 have w:IntKind.i64.wrap (s.f4+1)=s.f4+1:=wrap_small (by omega) (by omega)
 have a3:(svS s).f3=(l++[(⟨s.f4+1,s.heap,(l.length:Int)⟩:Sn)]).map b3R:=by
  show s.f3++_=_
  rw [w,t.h3,t.h62]
  simp [b3R,t.tl]
 have a62:(svS s).f62=(ts++[s]).map grO:=by
  show s.f62++_=_
  rw [t.h62];simp
 have at':∀ (i:Nat) (x:Sn),(l++[(⟨s.f4+1,s.heap,(l.length:Int)⟩:Sn)])[i]?=some x→(l[i]?=some x)∨(i=l.length∧x=⟨s.f4+1,s.heap,(l.length:Int)⟩):=by
  intro i x hx
  by_cases hi:i<l.length
  ·rw [List.getElem?_append_left hi] at hx;exact .inl hx
  ·rw [List.getElem?_append_right (by omega)] at hx
   have:i - l.length=0:=by
    have:=(List.getElem?_eq_some_iff.1 hx).1
    simp at this;omega
   rw [this] at hx
   simp only [List.getElem?_cons_zero,Option.some.injEq] at hx
   exact .inr ⟨by omega,hx.symm⟩
 refine ⟨a3,a62,t.sh,?_,?_,?_,t.dl,t.df,by simp;omega,by simp [t.tl],?_,?_,?_⟩
 ·show (s.ops++_).length≤100;simp;omega
 ·intro hF o hx
  rcases List.mem_append.1 (show o ∈ s.ops++[svO (IntKind.i64.wrap (s.f4+1))] from hx) with hx | hx
  ·exact t.of' hF o hx
  ·simp only [List.mem_singleton] at hx;subst hx
   exact K3 (c0r (by rw [w];omega)) rfl
 ·intro o hx
  rcases List.mem_append.1 (show o ∈ s.ops++[svO (IntKind.i64.wrap (s.f4+1))] from hx) with hx | hx
  ·exact t.on o hx
  ·simp only [List.mem_singleton] at hx;subst hx
   show IntKind.i64.wrap (s.f4+1)<_
   rw [w];omega
 ·intro i x hx
  rcases at' i x hx with hx | ⟨rfl,rfl⟩
  ·exact t.sv i x hx
  ·exact ⟨rfl,t.sh,a3D.refl _⟩
 ·intro i k x y hik hx hy
  rcases at' i x hx with hx | ⟨rfl,rfl⟩
  ·rcases at' k y hy with hy | ⟨rfl,rfl⟩
   ·exact t.pw i k x y hik hx hy
   ·exact (t.sv i x hx).2.2
  ·rcases at' k y hy with hy | ⟨rfl,rfl⟩
   ·have:=(List.getElem?_eq_some_iff.1 hy).1;omega
   ·omega
 ·show 0≤IntKind.i64.wrap (s.f4+1)∧IntKind.i64.wrap (s.f4+1)≤((m+1:Nat):Int)
  rw [w];omega
theorem SI.restore {F:Prop} {m:Nat} {s:C3} {l:List Sn} {ts:List C3} (t:SI F m s l ts) {lo:List Ob} {o:Ob} (hop:s.ops=lo++[o]) {i:Nat} {x:Sn} (hx:l[i]?=some x) (g:C3) (h1:¬ ∃ o ∈ lo,b7A x.heap.length o) (h2:¬ ∃ o ∈ s.j8,b7A x.heap.length o):SI F m (rsS s lo x.heap g i i) (l.take i) (ts.take i):=by
 obtain ⟨q1,q2,q3⟩:=t.sv i x hx
 have hi:=(List.getElem?_eq_some_iff.1 hx).1
 have hol:=t.ol
 rw [hop] at hol
 simp at hol
 refine ⟨?_,?_,q2,?_,?_,?_,t.dl,?_,by rw [List.length_take];have:=t.ll;omega,by rw [List.length_take,List.length_take,t.tl],?_,?_,t.made⟩
 ·show s.f3.take i=_;rw [t.h3,List.map_take]
 ·show s.f62.take i=_;rw [t.h62,List.map_take]
 ·show lo.length≤100;omega
 ·intro hF p hp
  exact b1Z q3 (t.of' hF p (by rw [hop];exact List.mem_append_left _ hp)) (fun hn=>h1 ⟨p,hp,hn⟩)
 ·intro p hp
  exact t.on p (by rw [hop];exact List.mem_append_left _ hp)
 ·intro hF p hp
  exact b1Z q3 (t.df hF p hp) (fun hn=>h2 ⟨p,hp,hn⟩)
 ·intro k y hy
  have hk:k<i:=by have:=(List.getElem?_eq_some_iff.1 hy).1;rw [List.length_take] at this;omega
  rw [List.getElem?_take_of_lt hk] at hy
  exact ⟨(t.sv k y hy).1,(t.sv k y hy).2.1,t.pw k i y x hk hy hx⟩
 ·intro k k2 y z hkk hy hz
  have hk2:k2<i:=by have:=(List.getElem?_eq_some_iff.1 hz).1;rw [List.length_take] at this;omega
  rw [List.getElem?_take_of_lt (by omega)] at hy
  rw [List.getElem?_take_of_lt hk2] at hz
  exact t.pw k k2 y z hkk hy hz
end Go.Ab.Td
namespace Go.Ab.Td
set_option maxRecDepth 100000
open Go Go.Ab
variable {P:Program}
set_option linter.unusedSimpArgs false
attribute [local irreducible] g8
def c4T (D H:List (List PV)):Prop:=c4U D H∧(∃ r,D=Q4 0::Q4 1::r)∧∀ r ∈ D,∃ (j:Nat) (row:List PV),r=Q4 (j:Int)∧H[j]?=some row∧kindOf row=3
end Go.Ab.Td
namespace Go.Ab.Td
set_option maxRecDepth 100000
set_option maxRecDepth 100000
open Go Go.Ab
variable {P:Program}
set_option linter.unusedSimpArgs false
attribute [local irreducible] g8
open Classical in
noncomputable def hOf (H:List (List PV)):List Cl:=if h:∃ h:List Cl,LeR H (h.map j6)∧H.length=h.length∧a2r h then Classical.choose h else []
theorem b6b {H:List (List PV)} (h:∃ h:List Cl,LeR H (h.map j6)∧H.length=h.length∧a2r h):LeR H ((hOf H).map j6)∧H.length=(hOf H).length∧a2r (hOf H):=by
 unfold hOf
 rw [dif_pos h]
 exact Classical.choose_spec h
theorem b9p {H:List (List PV)} {t:List Cl} {j:Nat} {row:List PV} (e:LeR H (t.map j6)) (hr:H[j]?=some row) (hk:kindOf row=3) (h2:j≤20000):fits t (dO (j:Int)):=by
 have hl:=e.len
 have hj:=(List.getElem?_eq_some_iff.1 hr).1
 obtain ⟨c,hc⟩:∃ c,t[j]?=some c:=⟨_,List.getElem?_eq_getElem (by rw [List.length_map] at hl;omega)⟩
 have q:=e.get j row (j6 c) hr (by rw [List.getElem?_map,hc];rfl)
 have k3:c.kind=3:=by
  cases q with
  | cons h t=>
    cases h with
    | refl=>exact hk
 refine ⟨?_,fun _=>⟨c,hc,k3,fun h=>absurd rfl h.1⟩⟩
 unfold Ob.right Ob.blank dO;simp;omega
theorem a8P {a b:Ob} (h:i4 a=i4 b):a=b:=by
 obtain ⟨_,_,_,_,_,_,_⟩:=a
 obtain ⟨_,_,_,_,_,_,_⟩:=b
 simp [i4] at h
 obtain ⟨rfl,rfl,rfl,rfl,rfl,rfl,rfl⟩:=h
 rfl
theorem c0u {ld:List Ob} {r:List (List PV)} (h:ld.map i4=Q4 0::Q4 1::r):∃ d,ld=dO 0::dO 1::d:=by
 cases ld with
 | nil=>cases h
 | cons a ld=>
   cases ld with
   | nil=>simp at h
   | cons b ld=>
     simp only [List.map_cons,List.cons.injEq] at h
     have e1:a=dO 0:=a8P h.1
     have e2:b=dO 1:=a8P h.2.1
     exact ⟨ld,by rw [e1,e2]⟩
theorem c6R {Z:Ob→Prop} {rr:List (List PV)} (h:∀ x ∈ rr,∃ o:Ob,x=i4 o∧Z o) (lo:List Ob) (e:rr=lo.map i4):∀ o ∈ lo,Z o:=by
 intro o ho
 obtain ⟨o2,h1,h2⟩:=h (i4 o) (by rw [e];exact List.mem_map_of_mem ho)
 rw [a8P h1];exact h2
end Go.Ab.Td

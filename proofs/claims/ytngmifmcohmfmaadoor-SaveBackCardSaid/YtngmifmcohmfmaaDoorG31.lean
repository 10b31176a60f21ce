/- A part of the proof: the texts TdVy. Under: nothing. -/
import Derived.Test.YtngmifmcohmfmaaDoorG14
import Derived.Test.YtngmifmcohmfmaaDoorG30
set_option linter.unusedVariables false
namespace Go.Ab.Td
set_option maxRecDepth 100000
set_option maxRecDepth 100000
open Go Go.Ab
set_option linter.unusedSimpArgs false
def T1 (h' h:List Cl):Prop:=h'.length≤h.length∧∀ (k:Nat) (c':Cl),h'[k]?=some c'→∃ c,h[k]?=some c∧c.kind=c'.kind∧(c.kind=3∨c.length=c'.length)
theorem T1.refl (h:List Cl):T1 h h:=⟨Nat.le_refl _,fun _ c hc=>⟨c,hc,rfl,.inr rfl⟩⟩
theorem T1.trans {a b c:List Cl} (h1:T1 a b) (h2:T1 b c):T1 a c:=by
 refine ⟨Nat.le_trans h1.1 h2.1,fun k x hx=>?_⟩
 obtain ⟨y,hy,e1,e2⟩:=h1.2 k x hx
 obtain ⟨z,hz,f1,f2⟩:=h2.2 k y hy
 refine ⟨z,hz,by rw [f1,e1],?_⟩
 rcases f2 with f2 | f2
 ·exact .inl f2
 ·rcases e2 with e2 | e2
  ·exact .inl (by rw [f1];exact e2)
  ·exact .inr (by rw [f2,e2])
theorem T1.app (h more:List Cl):T1 h (h++more):=
 ⟨by simp,fun k c hc=>⟨c,by rw [List.getElem?_append_left (List.getElem?_eq_some_iff.1 hc).1];exact hc,rfl,.inr rfl⟩⟩
theorem T1.set {h:List Cl} {j:Nat} {c c':Cl} (hc:h[j]?=some c) (hk:c'.kind=c.kind) (hl:c'.kind=3∨c'.length=c.length):T1 h (h.set j c'):=by
 refine ⟨by simp,fun k x hx=>?_⟩
 by_cases e:j=k
 ·subst e
  rw [hc] at hx
  cases hx
  exact ⟨c',List.getElem?_set_self (List.getElem?_eq_some_iff.1 hc).1,hk,hl⟩
 ·exact ⟨x,by rw [List.getElem?_set_ne e];exact hx,rfl,.inr rfl⟩
theorem c3a (o:Ob):o.comp↔H4 o.kind≠0:=by
 unfold Ob.comp
 rcases a4k o.kind with ⟨h,e⟩ | ⟨h,e⟩ | ⟨h,e⟩ | ⟨h,e⟩ | ⟨h1,h2,h3,h4,h5,e⟩
 ·rw [e];omega
 ·rw [e];omega
 ·rw [e];omega
 ·rw [e];omega
 ·rw [e];omega
theorem c2W {k:Int} (h:H4 k=3):k=9:=by
 rcases a4k k with ⟨_,e⟩ | ⟨_,e⟩ | ⟨h9,e⟩ | ⟨_,e⟩ | ⟨_,_,_,_,_,e⟩ <;>omega
theorem b3f {h' h:List Cl} (ho:T1 h' h) {o:Ob} (hf:fits h' o):fits h o:=by
 refine ⟨hf.1,fun hk=>?_⟩
 obtain ⟨c',hc',h1,h2⟩:=hf.2 hk
 obtain ⟨c,hc,e1,e2⟩:=ho.2 _ c' hc'
 refine ⟨c,hc,by rw [e1];exact h1,fun h9=>?_⟩
 rcases e2 with e2 | e2
 ·have:=c2W (k:=o.kind) (by rw [← h1,← e1];exact e2)
  omega
 ·rw [e2];exact h2 h9
theorem b3h {h' h:List Cl} (ho:T1 h' h) {o:Ob} (hf:fits h o) (hn:¬ n7 h'.length o):fits h' o:=by
 refine ⟨hf.1,fun hk=>?_⟩
 obtain ⟨c,hc,h1,h2⟩:=hf.2 hk
 have hr:=(a5L hf.1).1
 have hlt:o.ref<h'.length:=by
  have:¬ ((h'.length:Int)≤o.ref):=fun x=>hn ⟨(c3a o).2 hk,x⟩
  omega
 obtain ⟨c',hc'⟩:∃ c',h'[o.ref.toNat]?=some c':=⟨_,List.getElem?_eq_getElem (by omega)⟩
 obtain ⟨d,hd,e1,e2⟩:=ho.2 _ c' hc'
 rw [hc] at hd
 cases hd
 refine ⟨c',hc',by rw [← e1];exact h1,fun h9=>?_⟩
 rcases e2 with e2 | e2
 ·have:=c2W (k:=o.kind) (by rw [← h1];exact e2)
  omega
 ·rw [← e2];exact h2 h9
structure SH (h:List Cl):Prop where
 v:Y2 h
 len:10≤h.length∧h.length≤60
 tot:0≤o7 0 h∧o7 0 h≤704+41*((h.length:Int) - 10)
 nc:∀ c ∈ h,nC c
theorem SH.vh {h:List Cl} (t:SH h):VH h:=⟨t.v,by have:=t.len;omega⟩
theorem SH.sm {h:List Cl} (t:SH h):small h:=t.vh.small
theorem SH.app {h:List Cl} (t:SH h) (hl:h.length<60) {c:Cl} (h1:a7Z c) (h2:Y7 h c) (h3:0≤c.size) (h4:c.size≤41):SH (h++[c]):=by
 obtain ⟨hv,⟨l1,l2⟩,⟨q1,q2⟩,hn⟩:=t
 have e:o7 0 (h++[c])=o7 0 h+c.size:=by rw [b7e,wrap_small (by omega) (by omega)]
 have el:(h++[c]).length=h.length+1:=by simp
 refine ⟨⟨fun d hd=>?_,by rw [e];omega⟩,by omega,by rw [e,el];omega,fun d hd=>?_⟩
 ·rcases List.mem_append.1 hd with hd | hd
  ·exact a1w (fun o ho=>a9L ho) (hv.1 d hd)
  ·simp only [List.mem_singleton] at hd;subst hd;exact a1w (fun o ho=>a9L ho) h2
 ·rcases List.mem_append.1 hd with hd | hd
  ·exact hn d hd
  ·simp only [List.mem_singleton] at hd;subst hd;exact a7Z.nC h1
theorem SH.set {h:List Cl} (t:SH h) {j:Nat} {c c':Cl} (hc:h[j]?=some c) (hk:c'.kind=c.kind) (hl:c'.kind=3∨c'.kind=4∨c'.length=c.length) (hs:c'.size=c.size) (hr:Y7 h c') (hn:nC c'):SH (h.set j c'):=
 ⟨b1r t.v hc hk hl hs hr,by rw [List.length_set];exact t.len,by rw [b0E hs h j 0 hc,List.length_set];exact t.tot,b8V t.nc hn j⟩
structure SI (F:Prop) (m:Nat) (s:v9) (l:List Sn) (ts:List v9):Prop where
 h3:s.f3=l.map w7
 h62:s.f62=ts.map grO
 sh:SH s.heap
 ol:s.ops.length≤100
 of':F→∀ o ∈ s.ops,fits s.heap o
 on:∀ o ∈ s.ops,o.n<9223372036854775808
 dl:s.e6.length≤20
 df:F→∀ o ∈ s.e6,fits s.heap o
 ll:l.length≤10
 tl:ts.length=l.length
 sv:∀ (i:Nat) (x:Sn),l[i]?=some x→x.st=(i:Int)∧SH x.heap∧T1 x.heap s.heap
 pw:∀ (i k:Nat) (x y:Sn),i<k→l[i]?=some x→l[k]?=some y→T1 x.heap y.heap
 made:0≤s.f4∧s.f4≤m
theorem SI.more {F:Prop} {m n:Nat} {s:v9} {l:List Sn} {ts:List v9} (t:SI F m s l ts) (h:m≤n):SI F n s l ts:=
 {t with made:=⟨t.made.1,by have:=t.made.2;omega⟩}
theorem SI.b1o {F:Prop} {m:Nat} {s:v9} {l:List Sn} {ts:List v9} (t:SI F m s l ts) {ops:List Ob} (h1:ops.length≤100) (h2:F→∀ o ∈ ops,fits s.heap o) (h3:∀ o ∈ ops,o.n<9223372036854775808):SI F m {s with ops:=ops} l ts:=
 ⟨t.h3,t.h62,t.sh,h1,h2,h3,t.dl,t.df,t.ll,t.tl,t.sv,t.pw,t.made⟩
theorem SI.b2N {F:Prop} {m:Nat} {s:v9} {l:List Sn} {ts:List v9} (t:SI F m s l ts) {h:List Cl} (h1:SH h) (h2:T1 s.heap h):SI F m {s with heap:=h} l ts:=
 ⟨t.h3,t.h62,h1,t.ol,fun hF o ho=>b3f h2 (t.of' hF o ho),t.on,t.dl,fun hF o ho=>b3f h2 (t.df hF o ho),t.ll,t.tl,fun i x hx=>⟨(t.sv i x hx).1,(t.sv i x hx).2.1,(t.sv i x hx).2.2.trans h2⟩,t.pw,t.made⟩
theorem SI.c0Q {F:Prop} {m:Nat} {s:v9} {l:List Sn} {ts:List v9} (t:SI F m s l ts) (v:Int):SI F m {s with f45:=v} l ts:=
 ⟨t.h3,t.h62,t.sh,t.ol,t.of',t.on,t.dl,t.df,t.ll,t.tl,t.sv,t.pw,t.made⟩
theorem SI.b8r {F:Prop} {m:Nat} {s:v9} {l:List Sn} {ts:List v9} (t:SI F m s l ts) {d:List Ob} (h1:d.length≤20) (h2:F→∀ o ∈ d,fits s.heap o):SI F m {s with e6:=d} l ts:=
 ⟨t.h3,t.h62,t.sh,t.ol,t.of',t.on,h1,h2,t.ll,t.tl,t.sv,t.pw,t.made⟩
theorem b5G {n:Int} (h:1≤n):(svO n).right:=by
 unfold svO Ob.right Ob.blank;simp;omega
theorem SI.save {F:Prop} {m:Nat} {s:v9} {l:List Sn} {ts:List v9} (t:SI F m s l ts) (hm:m<1000000) (hl:l.length<10) (ho:s.ops.length<100):SI F (m+1) (svS s) (l++[(⟨s.f4+1,s.heap,(l.length:Int)⟩:Sn)]) (ts++[s]):=by
 have hmd:=t.made
 have w:IntKind.i64.wrap (s.f4+1)=s.f4+1:=wrap_small (by omega) (by omega)
 have a3:(svS s).f3=(l++[(⟨s.f4+1,s.heap,(l.length:Int)⟩:Sn)]).map w7:=by
  show s.f3++_=_
  rw [w,t.h3,t.h62]
  simp [w7,t.tl]
 have a62:(svS s).f62=(ts++[s]).map grO:=by
  show s.f62++_=_
  rw [t.h62];simp
 have at':∀ (i:Nat) (x:Sn),(l++[(⟨s.f4+1,s.heap,(l.length:Int)⟩:Sn)])[i]?=some x→(l[i]?=some x)∨(i=l.length∧x=⟨s.f4+1,s.heap,(l.length:Int)⟩):=by
  intro i x hx
  by_cases hi:i<l.length
  ·rw [List.getElem?_append_left hi] at hx;exact .inl hx
  ·rw [List.getElem?_append_right (by omega)] at hx
   have:i - l.length=0:=by
    have:=(List.getElem?_eq_some_iff.1 hx).1
    simp at this;omega
   rw [this] at hx
   simp only [List.getElem?_cons_zero,Option.some.injEq] at hx
   exact .inr ⟨by omega,hx.symm⟩
 refine ⟨a3,a62,t.sh,?_,?_,?_,t.dl,t.df,by simp;omega,by simp [t.tl],?_,?_,?_⟩
 ·show (s.ops++_).length≤100;simp;omega
 ·intro hF o hx
  rcases List.mem_append.1 (show o ∈ s.ops++[svO (IntKind.i64.wrap (s.f4+1))] from hx) with hx | hx
  ·exact t.of' hF o hx
  ·simp only [List.mem_singleton] at hx;subst hx
   exact v3 (b5G (by rw [w];omega)) rfl
 ·intro o hx
  rcases List.mem_append.1 (show o ∈ s.ops++[svO (IntKind.i64.wrap (s.f4+1))] from hx) with hx | hx
  ·exact t.on o hx
  ·simp only [List.mem_singleton] at hx;subst hx
   show IntKind.i64.wrap (s.f4+1)<_
   rw [w];omega
 ·intro i x hx
  rcases at' i x hx with hx | ⟨rfl,rfl⟩
  ·exact t.sv i x hx
  ·exact ⟨rfl,t.sh,T1.refl _⟩
 ·intro i k x y hik hx hy
  rcases at' i x hx with hx | ⟨rfl,rfl⟩
  ·rcases at' k y hy with hy | ⟨rfl,rfl⟩
   ·exact t.pw i k x y hik hx hy
   ·exact (t.sv i x hx).2.2
  ·rcases at' k y hy with hy | ⟨rfl,rfl⟩
   ·have:=(List.getElem?_eq_some_iff.1 hy).1;omega
   ·omega
 ·show 0≤IntKind.i64.wrap (s.f4+1)∧IntKind.i64.wrap (s.f4+1)≤((m+1:Nat):Int)
  rw [w];omega
theorem SI.restore {F:Prop} {m:Nat} {s:v9} {l:List Sn} {ts:List v9} (t:SI F m s l ts) {lo:List Ob} {o:Ob} (hop:s.ops=lo++[o]) {i:Nat} {x:Sn} (hx:l[i]?=some x) (g:v9) (h1:¬ ∃ o ∈ lo,n7 x.heap.length o) (h2:¬ ∃ o ∈ s.e6,n7 x.heap.length o):SI F m (rsS s lo x.heap g i i) (l.take i) (ts.take i):=by
 obtain ⟨q1,q2,q3⟩:=t.sv i x hx
 have hi:=(List.getElem?_eq_some_iff.1 hx).1
 have hol:=t.ol
 rw [hop] at hol
 simp at hol
 refine ⟨?_,?_,q2,?_,?_,?_,t.dl,?_,by rw [List.length_take];have:=t.ll;omega,by rw [List.length_take,List.length_take,t.tl],?_,?_,t.made⟩
 ·show s.f3.take i=_;rw [t.h3,List.map_take]
 ·show s.f62.take i=_;rw [t.h62,List.map_take]
 ·show lo.length≤100;omega
 ·intro hF p hp
  exact b3h q3 (t.of' hF p (by rw [hop];exact List.mem_append_left _ hp)) (fun hn=>h1 ⟨p,hp,hn⟩)
 ·intro p hp
  exact t.on p (by rw [hop];exact List.mem_append_left _ hp)
 ·intro hF p hp
  exact b3h q3 (t.df hF p hp) (fun hn=>h2 ⟨p,hp,hn⟩)
 ·intro k y hy
  have hk:k<i:=by have:=(List.getElem?_eq_some_iff.1 hy).1;rw [List.length_take] at this;omega
  rw [List.getElem?_take_of_lt hk] at hy
  exact ⟨(t.sv k y hy).1,(t.sv k y hy).2.1,t.pw k i y x hk hy hx⟩
 ·intro k k2 y z hkk hy hz
  have hk2:k2<i:=by have:=(List.getElem?_eq_some_iff.1 hz).1;rw [List.length_take] at this;omega
  rw [List.getElem?_take_of_lt (by omega)] at hy
  rw [List.getElem?_take_of_lt hk2] at hz
  exact t.pw k k2 y z hkk hy hz
end Go.Ab.Td

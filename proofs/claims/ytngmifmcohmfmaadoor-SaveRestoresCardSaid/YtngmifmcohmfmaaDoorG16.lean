/- A part of the proof: the texts TdVx, TdVy, TdPu. Under: nothing. -/
import Derived.Test.YtngmifmcohmfmaaDoorG15
import Derived.Test.YtngmifmcohmfmaaDoorG08
import Derived.Test.YtngmifmcohmfmaaDoorG12
import Derived.Test.YtngmifmcohmfmaaDoorG05
set_option linter.unusedVariables false
namespace Go.Ab.Td
set_option maxRecDepth 100000
set_option maxRecDepth 100000
open Go Go.Ab
variable {P:Program}
set_option linter.unusedSimpArgs false
def VH (h:List Cl):Prop:=a2c h∧h.length≤20000
theorem VH.small {h:List Cl} (t:VH h):small h:=b7c t.1 (by have:=t.2;omega)
theorem a5Y {h:List Cl} {c:Cl} (hr:a0R h c):(c.kind=1→c.items=[]∧c.bytes.length≤1000)∧(c.kind=2→c.bytes=[]∧c.items.length≤1000):=by
 rcases hr with ⟨k,h1,h2, -⟩ | ⟨k,h1,h2, -⟩ | ⟨k, -⟩ | ⟨k, -⟩
 ·exact ⟨fun _=>⟨List.length_eq_zero_iff.1 h2,h1⟩,fun e=>by omega⟩
 ·exact ⟨fun e=>by omega,fun _=>⟨h1,h2⟩⟩
 ·exact ⟨fun e=>by omega,fun e=>by omega⟩
 ·exact ⟨fun e=>by omega,fun e=>by omega⟩
theorem a2Z {h:List Cl} (t:VH h) {kd cl A B N:Int} (hk:(kd=6∧cl=1)∨((kd=7∨kd=8)∧cl=2)∨(kd=9∧cl=3)∨(kd=11∧cl=4)) (hA:0≤A∧A<256) (hB:0≤B∧B<256):fits h (a0V h kd cl A B N):=by
 unfold a0V
 by_cases hp:j7 (h.map k9) cl A<0
 ·rw [if_pos hp];exact fits_int (by omega) (by omega) false
 ·rw [if_neg hp]
  obtain ⟨j,c,ej,hc,hcl,hj⟩:=b5p hp
  have hl:=t.2
  have hs:=a5Y (t.1.1 c (List.mem_of_getElem? hc))
  rw [ej]
  have hc':h[((j:Int)).toNat]?=some c:=by simpa using hc
  by_cases h3:cl=3∨cl=4
  ·rw [if_pos h3]
   have hkd:kd=9∧cl=3∨kd=11∧cl=4:=by omega
   refine ⟨?_,fun _=>⟨c,hc',?_,fun hx=>?_⟩⟩
   ·rcases hkd with ⟨rfl,_⟩ | ⟨rfl,_⟩ <;>(unfold Ob.right Ob.blank;simp;omega)
   ·rcases hkd with ⟨rfl,rfl⟩ | ⟨rfl,rfl⟩ <;>exact hcl
   ·dsimp only at hx;omega
  ·rw [if_neg h3]
   have hkd:kd=6∧cl=1∨(kd=7∨kd=8)∧cl=2:=by omega
   have hlen:(c.length:Int)=(c.bytes.length:Int)+c.items.length∧c.length≤1000:=by
    unfold Cl.length
    rcases hkd with ⟨_,rfl⟩ | ⟨_,rfl⟩
    ·obtain ⟨e1,e2⟩:=hs.1 hcl
     rw [if_pos hcl,e1];simp;omega
    ·obtain ⟨e1,e2⟩:=hs.2 hcl
     rw [if_neg (by omega),e1];simp;omega
   have fin:∀ (e:Bool) (o l:Int),0≤o→0≤l→o+l≤c.length→fits h ⟨kd,e,0,[],(j:Int),o,l⟩:=by
    intro e o l h1 h2 h3
    refine ⟨?_,fun _=>⟨c,hc',?_,fun _=>h3⟩⟩
    ·rcases hkd with ⟨rfl,_⟩ | ⟨rfl | rfl,_⟩ <;>(unfold Ob.right Ob.blank;simp;omega)
    ·rcases hkd with ⟨rfl,rfl⟩ | ⟨rfl | rfl,rfl⟩ <;>exact hcl
   simp only [hc',Option.getD_some]
   rw [← hlen.1]
   have hn0:0≤c.length:=by omega
   split
   ·have t1:=Int.tmod_nonneg (c.length+1) hB.1
    have t2:=Int.tmod_lt_of_pos B (show 0<c.length+1 by omega)
    have t3:=Int.tmod_nonneg (c.length - B.tmod (c.length+1)+1) (Int.tdiv_nonneg hB.1 (show (0:Int)≤3 by decide))
    have t4:=Int.tmod_lt_of_pos (B.tdiv 3) (show 0<c.length - B.tmod (c.length+1)+1 by omega)
    exact fin _ _ _ t1 t3 (by omega)
   ·exact fin _ _ _ (by decide) hn0 (by omega)
theorem b3V {h:List Cl} (t:VH h) (K A B N:Int) (hA:0≤A∧A<256) (hB:0≤B∧B<256) (hN: -2147483648≤N∧N≤2147483647):fits h (a8a h K A B N):=by
 have r2:0≤A.tmod 2∧A.tmod 2<2:=⟨Int.tmod_nonneg _ hA.1,Int.tmod_lt_of_pos _ (by decide)⟩
 have r10: -10<N.tmod 10∧N.tmod 10<10:=⟨Int.lt_tmod_of_pos _ (by decide),Int.tmod_lt_of_pos _ (by decide)⟩
 have r20: -1048576<N.tmod 1048576∧N.tmod 1048576<1048576:=⟨Int.lt_tmod_of_pos _ (by decide),Int.tmod_lt_of_pos _ (by decide)⟩
 have wl:=b7d A
 unfold a8a
 refine n9 (fun _=>u2 (by unfold Ob.right Ob.blank ob0;simp) rfl) fun _=>?_
 refine n9 (fun _=>u2 (by unfold Ob.right Ob.blank;simp) rfl) fun _=>?_
 refine n9 (fun _=>u2 (by unfold Ob.right Ob.blank;simp;omega) rfl) fun _=>?_
 refine n9 (fun _=>fits_int (by omega) (by omega) false) fun _=>?_
 refine n9 (fun _=>fits_int (by omega) (by omega) false) fun _=>?_
 refine n9 (fun _=>u2 (by unfold Ob.right Ob.blank;simp;omega) rfl) fun _=>?_
 refine n9 (fun _=>u2 (by unfold Ob.right Ob.blank;simp;omega) rfl) fun _=>?_
 refine n9 (fun _=>u2 (by unfold Ob.right Ob.blank;simp;omega) rfl) fun _=>?_
 refine n9 (fun _=>a2Z t (by omega) hA hB) fun _=>?_
 refine n9 (fun _=>a2Z t (by omega) hA hB) fun _=>?_
 refine n9 (fun _=>a2Z t (by omega) hA hB) fun _=>?_
 refine n9 (fun _=>a2Z t (by omega) hA hB) fun _=>?_
 refine n9 (fun _=>u2 (by unfold Ob.right Ob.blank;simp) rfl) fun _=>?_
 exact a2Z t (by omega) hA hB
theorem c1F (C:Laid P) {h:List Cl} (t:VH h) {H:List (List PV)} (e:LeR H (h.map k9)) (K A B N:Int) (S:List UInt8) (hA:0≤A∧A<256) (hB:0≤B∧B<256) (hN: -2147483648≤N∧N≤2147483647):∃ r,(FV h r∧a2Q r)∧j6 P G c9 [B5 K A B N S,.sl 7 H] [] (.agg r):=by
 have f:FV h (g9 (a8a h K A B N)):=⟨_,rfl,b3V t K A B N hA hB hN,b6w h K A B N hA hN⟩
 exact ⟨_,⟨f,b1k f⟩,a9l (J5 C h t.small K A B N S hA hB hN) (.cons (.refl _) (.cons (b9e e) .nil))⟩
theorem b9X (C:Laid P) {h:List Cl} (t:VH h) (K A B N:Int) (S:List UInt8) (hA:0≤A∧A<256) (hB:0≤B∧B<256) (hN: -2147483648≤N∧N≤2147483647):∃ c:Cl,(a7b c∧a0R h c∧0≤c.size∧c.size≤41)∧j6 P G m8 [B5 K A B N S,.sl 7 (List.map k9 h)] [] (aC c):=by
 obtain ⟨r,h1,h2⟩:=b3Q (FV h) (j6 P G) (h.map k9) K A B N S hA hB hN (fun K' A' B' N' S' a b n=>c1F C t (LeR.refl _) K' A' B' N' S' a b n) (b6l C) (b6m C)
 obtain ⟨c,e,hc⟩:=b8O h1
 exact ⟨c,hc,b9h (a6u C (a3H C) rfl h2) (s7 e)⟩
end Go.Ab.Td
namespace Go.Ab.Td
set_option maxRecDepth 100000
set_option maxRecDepth 100000
open Go Go.Ab
set_option linter.unusedSimpArgs false
def Q6 (h' h:List Cl):Prop:=h'.length≤h.length∧∀ (k:Nat) (c':Cl),h'[k]?=some c'→∃ c,h[k]?=some c∧c.kind=c'.kind∧(c.kind=3∨c.length=c'.length)
theorem Q6.refl (h:List Cl):Q6 h h:=⟨Nat.le_refl _,fun _ c hc=>⟨c,hc,rfl,.inr rfl⟩⟩
theorem Q6.trans {a b c:List Cl} (h1:Q6 a b) (h2:Q6 b c):Q6 a c:=by
 refine ⟨Nat.le_trans h1.1 h2.1,fun k x hx=>?_⟩
 obtain ⟨y,hy,e1,e2⟩:=h1.2 k x hx
 obtain ⟨z,hz,f1,f2⟩:=h2.2 k y hy
 refine ⟨z,hz,by rw [f1,e1],?_⟩
 rcases f2 with f2 | f2
 ·exact .inl f2
 ·rcases e2 with e2 | e2
  ·exact .inl (by rw [f1];exact e2)
  ·exact .inr (by rw [f2,e2])
theorem Q6.app (h more:List Cl):Q6 h (h++more):=
 ⟨by simp,fun k c hc=>⟨c,by rw [List.getElem?_append_left (List.getElem?_eq_some_iff.1 hc).1];exact hc,rfl,.inr rfl⟩⟩
theorem Q6.set {h:List Cl} {j:Nat} {c c':Cl} (hc:h[j]?=some c) (hk:c'.kind=c.kind) (hl:c'.kind=3∨c'.length=c.length):Q6 h (h.set j c'):=by
 refine ⟨by simp,fun k x hx=>?_⟩
 by_cases e:j=k
 ·subst e
  rw [hc] at hx
  cases hx
  exact ⟨c',List.getElem?_set_self (List.getElem?_eq_some_iff.1 hc).1,hk,hl⟩
 ·exact ⟨x,by rw [List.getElem?_set_ne e];exact hx,rfl,.inr rfl⟩
theorem c1p (o:Ob):o.comp↔I1 o.kind≠0:=by
 unfold Ob.comp
 rcases a3C o.kind with ⟨h,e⟩ | ⟨h,e⟩ | ⟨h,e⟩ | ⟨h,e⟩ | ⟨h1,h2,h3,h4,h5,e⟩
 ·rw [e];omega
 ·rw [e];omega
 ·rw [e];omega
 ·rw [e];omega
 ·rw [e];omega
theorem c1j {k:Int} (h:I1 k=3):k=9:=by
 rcases a3C k with ⟨_,e⟩ | ⟨_,e⟩ | ⟨h9,e⟩ | ⟨_,e⟩ | ⟨_,_,_,_,_,e⟩ <;>omega
theorem b1S {h' h:List Cl} (ho:Q6 h' h) {o:Ob} (hf:fits h' o):fits h o:=by
 refine ⟨hf.1,fun hk=>?_⟩
 obtain ⟨c',hc',h1,h2⟩:=hf.2 hk
 obtain ⟨c,hc,e1,e2⟩:=ho.2 _ c' hc'
 refine ⟨c,hc,by rw [e1];exact h1,fun h9=>?_⟩
 rcases e2 with e2 | e2
 ·have:=c1j (k:=o.kind) (by rw [← h1,← e1];exact e2)
  omega
 ·rw [e2];exact h2 h9
theorem b1T {h' h:List Cl} (ho:Q6 h' h) {o:Ob} (hf:fits h o) (hn:¬ n7 h'.length o):fits h' o:=by
 refine ⟨hf.1,fun hk=>?_⟩
 obtain ⟨c,hc,h1,h2⟩:=hf.2 hk
 have hr:=(a6W hf.1).1
 have hlt:o.ref<h'.length:=by
  have:¬ ((h'.length:Int)≤o.ref):=fun x=>hn ⟨(c1p o).2 hk,x⟩
  omega
 obtain ⟨c',hc'⟩:∃ c',h'[o.ref.toNat]?=some c':=⟨_,List.getElem?_eq_getElem (by omega)⟩
 obtain ⟨d,hd,e1,e2⟩:=ho.2 _ c' hc'
 rw [hc] at hd
 cases hd
 refine ⟨c',hc',by rw [← e1];exact h1,fun h9=>?_⟩
 rcases e2 with e2 | e2
 ·have:=c1j (k:=o.kind) (by rw [← h1];exact e2)
  omega
 ·rw [← e2];exact h2 h9
structure SH (h:List Cl):Prop where
 v:a2c h
 len:10≤h.length∧h.length≤60
 tot:0≤r9 0 h∧r9 0 h≤704+41*((h.length:Int) - 10)
 nc:∀ c ∈ h,nC c
theorem SH.vh {h:List Cl} (t:SH h):VH h:=⟨t.v,by have:=t.len;omega⟩
theorem SH.sm {h:List Cl} (t:SH h):small h:=t.vh.small
theorem SH.app {h:List Cl} (t:SH h) (hl:h.length<60) {c:Cl} (h1:a7b c) (h2:a0R h c) (h3:0≤c.size) (h4:c.size≤41):SH (h++[c]):=by
 obtain ⟨hv,⟨l1,l2⟩,⟨q1,q2⟩,hn⟩:=t
 have e:r9 0 (h++[c])=r9 0 h+c.size:=by rw [b5G,wrap_small (by omega) (by omega)]
 have el:(h++[c]).length=h.length+1:=by simp
 refine ⟨⟨fun d hd=>?_,by rw [e];omega⟩,by omega,by rw [e,el];omega,fun d hd=>?_⟩
 ·rcases List.mem_append.1 hd with hd | hd
  ·exact a1a (fun o ho=>a8G ho) (hv.1 d hd)
  ·simp only [List.mem_singleton] at hd;subst hd;exact a1a (fun o ho=>a8G ho) h2
 ·rcases List.mem_append.1 hd with hd | hd
  ·exact hn d hd
  ·simp only [List.mem_singleton] at hd;subst hd;exact a7b.nC h1
theorem SH.set {h:List Cl} (t:SH h) {j:Nat} {c c':Cl} (hc:h[j]?=some c) (hk:c'.kind=c.kind) (hl:c'.kind=3∨c'.kind=4∨c'.length=c.length) (hs:c'.size=c.size) (hr:a0R h c') (hn:nC c'):SH (h.set j c'):=
 ⟨b0o t.v hc hk hl hs hr,by rw [List.length_set];exact t.len,by rw [a9x hs h j 0 hc,List.length_set];exact t.tot,b7x t.nc hn j⟩
structure SI (F:Prop) (m:Nat) (s:B4) (l:List Sn) (ts:List B4):Prop where
 h3:s.f3=l.map u1
 h62:s.f62=ts.map grO
 sh:SH s.heap
 ol:s.ops.length≤100
 of':F→∀ o ∈ s.ops,fits s.heap o
 on:∀ o ∈ s.ops,o.n<9223372036854775808
 dl:s.d9.length≤20
 df:F→∀ o ∈ s.d9,fits s.heap o
 ll:l.length≤10
 tl:ts.length=l.length
 sv:∀ (i:Nat) (x:Sn),l[i]?=some x→x.st=(i:Int)∧SH x.heap∧Q6 x.heap s.heap
 pw:∀ (i k:Nat) (x y:Sn),i<k→l[i]?=some x→l[k]?=some y→Q6 x.heap y.heap
 made:0≤s.f4∧s.f4≤m
theorem SI.more {F:Prop} {m n:Nat} {s:B4} {l:List Sn} {ts:List B4} (t:SI F m s l ts) (h:m≤n):SI F n s l ts:=
 {t with made:=⟨t.made.1,by have:=t.made.2;omega⟩}
theorem SI.b0l {F:Prop} {m:Nat} {s:B4} {l:List Sn} {ts:List B4} (t:SI F m s l ts) {ops:List Ob} (h1:ops.length≤100) (h2:F→∀ o ∈ ops,fits s.heap o) (h3:∀ o ∈ ops,o.n<9223372036854775808):SI F m {s with ops:=ops} l ts:=
 ⟨t.h3,t.h62,t.sh,h1,h2,h3,t.dl,t.df,t.ll,t.tl,t.sv,t.pw,t.made⟩
theorem SI.b1A {F:Prop} {m:Nat} {s:B4} {l:List Sn} {ts:List B4} (t:SI F m s l ts) {h:List Cl} (h1:SH h) (h2:Q6 s.heap h):SI F m {s with heap:=h} l ts:=
 ⟨t.h3,t.h62,h1,t.ol,fun hF o ho=>b1S h2 (t.of' hF o ho),t.on,t.dl,fun hF o ho=>b1S h2 (t.df hF o ho),t.ll,t.tl,fun i x hx=>⟨(t.sv i x hx).1,(t.sv i x hx).2.1,(t.sv i x hx).2.2.trans h2⟩,t.pw,t.made⟩
theorem SI.b9n {F:Prop} {m:Nat} {s:B4} {l:List Sn} {ts:List B4} (t:SI F m s l ts) (v:Int):SI F m {s with f45:=v} l ts:=
 ⟨t.h3,t.h62,t.sh,t.ol,t.of',t.on,t.dl,t.df,t.ll,t.tl,t.sv,t.pw,t.made⟩
theorem SI.c2h {F:Prop} {m:Nat} {s:B4} {l:List Sn} {ts:List B4} (t:SI F m s l ts) {d:List Ob} (h1:d.length≤20) (h2:F→∀ o ∈ d,fits s.heap o):SI F m {s with d9:=d} l ts:=
 ⟨t.h3,t.h62,t.sh,t.ol,t.of',t.on,h1,h2,t.ll,t.tl,t.sv,t.pw,t.made⟩
theorem c0H {n:Int} (h:1≤n):(svO n).right:=by
 unfold svO Ob.right Ob.blank;simp;omega
theorem SI.save {F:Prop} {m:Nat} {s:B4} {l:List Sn} {ts:List B4} (t:SI F m s l ts) (hm:m<1000000) (hl:l.length<10) (ho:s.ops.length<100):SI F (m+1) (svS s) (l++[(⟨s.f4+1,s.heap,(l.length:Int)⟩:Sn)]) (ts++[s]):=by
 have hmd:=t.made
 have w:IntKind.i64.wrap (s.f4+1)=s.f4+1:=wrap_small (by omega) (by omega)
 have a3:(svS s).f3=(l++[(⟨s.f4+1,s.heap,(l.length:Int)⟩:Sn)]).map u1:=by
  show s.f3++_=_
  rw [w,t.h3,t.h62]
  simp [u1,t.tl]
 have a62:(svS s).f62=(ts++[s]).map grO:=by
  show s.f62++_=_
  rw [t.h62];simp
 have at':∀ (i:Nat) (x:Sn),(l++[(⟨s.f4+1,s.heap,(l.length:Int)⟩:Sn)])[i]?=some x→(l[i]?=some x)∨(i=l.length∧x=⟨s.f4+1,s.heap,(l.length:Int)⟩):=by
  intro i x hx
  by_cases hi:i<l.length
  ·rw [List.getElem?_append_left hi] at hx;exact .inl hx
  ·rw [List.getElem?_append_right (by omega)] at hx
   have:i - l.length=0:=by
    have:=(List.getElem?_eq_some_iff.1 hx).1
    simp at this;omega
   rw [this] at hx
   simp only [List.getElem?_cons_zero,Option.some.injEq] at hx
   exact .inr ⟨by omega,hx.symm⟩
 refine ⟨a3,a62,t.sh,?_,?_,?_,t.dl,t.df,by simp;omega,by simp [t.tl],?_,?_,?_⟩
 ·show (s.ops++_).length≤100;simp;omega
 ·intro hF o hx
  rcases List.mem_append.1 (show o ∈ s.ops++[svO (IntKind.i64.wrap (s.f4+1))] from hx) with hx | hx
  ·exact t.of' hF o hx
  ·simp only [List.mem_singleton] at hx;subst hx
   exact u2 (c0H (by rw [w];omega)) rfl
 ·intro o hx
  rcases List.mem_append.1 (show o ∈ s.ops++[svO (IntKind.i64.wrap (s.f4+1))] from hx) with hx | hx
  ·exact t.on o hx
  ·simp only [List.mem_singleton] at hx;subst hx
   show IntKind.i64.wrap (s.f4+1)<_
   rw [w];omega
 ·intro i x hx
  rcases at' i x hx with hx | ⟨rfl,rfl⟩
  ·exact t.sv i x hx
  ·exact ⟨rfl,t.sh,Q6.refl _⟩
 ·intro i k x y hik hx hy
  rcases at' i x hx with hx | ⟨rfl,rfl⟩
  ·rcases at' k y hy with hy | ⟨rfl,rfl⟩
   ·exact t.pw i k x y hik hx hy
   ·exact (t.sv i x hx).2.2
  ·rcases at' k y hy with hy | ⟨rfl,rfl⟩
   ·have:=(List.getElem?_eq_some_iff.1 hy).1;omega
   ·omega
 ·show 0≤IntKind.i64.wrap (s.f4+1)∧IntKind.i64.wrap (s.f4+1)≤((m+1:Nat):Int)
  rw [w];omega
theorem SI.restore {F:Prop} {m:Nat} {s:B4} {l:List Sn} {ts:List B4} (t:SI F m s l ts) {lo:List Ob} {o:Ob} (hop:s.ops=lo++[o]) {i:Nat} {x:Sn} (hx:l[i]?=some x) (g:B4) (h1:¬ ∃ o ∈ lo,n7 x.heap.length o) (h2:¬ ∃ o ∈ s.d9,n7 x.heap.length o):SI F m (rsS s lo x.heap g i i) (l.take i) (ts.take i):=by
 obtain ⟨q1,q2,q3⟩:=t.sv i x hx
 have hi:=(List.getElem?_eq_some_iff.1 hx).1
 have hol:=t.ol
 rw [hop] at hol
 simp at hol
 refine ⟨?_,?_,q2,?_,?_,?_,t.dl,?_,by rw [List.length_take];have:=t.ll;omega,by rw [List.length_take,List.length_take,t.tl],?_,?_,t.made⟩
 ·show s.f3.take i=_;rw [t.h3,List.map_take]
 ·show s.f62.take i=_;rw [t.h62,List.map_take]
 ·show lo.length≤100;omega
 ·intro hF p hp
  exact b1T q3 (t.of' hF p (by rw [hop];exact List.mem_append_left _ hp)) (fun hn=>h1 ⟨p,hp,hn⟩)
 ·intro p hp
  exact t.on p (by rw [hop];exact List.mem_append_left _ hp)
 ·intro hF p hp
  exact b1T q3 (t.df hF p hp) (fun hn=>h2 ⟨p,hp,hn⟩)
 ·intro k y hy
  have hk:k<i:=by have:=(List.getElem?_eq_some_iff.1 hy).1;rw [List.length_take] at this;omega
  rw [List.getElem?_take_of_lt hk] at hy
  exact ⟨(t.sv k y hy).1,(t.sv k y hy).2.1,t.pw k i y x hk hy hx⟩
 ·intro k k2 y z hkk hy hz
  have hk2:k2<i:=by have:=(List.getElem?_eq_some_iff.1 hz).1;rw [List.length_take] at this;omega
  rw [List.getElem?_take_of_lt (by omega)] at hy
  rw [List.getElem?_take_of_lt hk2] at hz
  exact t.pw k k2 y z hkk hy hz
end Go.Ab.Td
namespace Go.Ab.Td
set_option maxRecDepth 100000
set_option maxRecDepth 100000
open Go Go.Ab
variable {P:Program}
set_option linter.unusedSimpArgs false
attribute [local irreducible] d8
theorem put_eq {b s:List UInt8} {k:Int} (h0:0≤k) (_hk:k+s.length≤b.length):(b.take k.toNat).drop (0:Int).toNat++s++(b.take ((b.length:Nat):Int).toNat).drop (k+s.length).toNat=R4 b k.toNat s:=by
 unfold R4
 rw [Int.toNat_natCast,List.take_length,show (0:Int).toNat=0 from rfl,List.drop_zero,show (k+s.length).toNat=k.toNat+s.length by omega]
open Classical in
noncomputable def a2m (o:Ob) (at' n:Int):Int:=if at'<0∨at'>o.len∨n>IntKind.i64.wrap (o.len - at') then 23 else 0
theorem b9l {o:Ob} {at' n:Int} (h:a2m o at' n=0) (h0:0≤o.len) (h1:o.len≤1000):0≤at'∧at'+n≤o.len∧at'≤o.len:=by
 unfold a2m at h
 split at h
 ·cases h
 ·have:IntKind.i64.wrap (o.len - at')=o.len - at':=wrap_small (by omega) (by omega)
  omega
def a4O (h:List Cl) (o:Ob) (at':Int) (s:List UInt8):List Cl:=h.set o.ref.toNat {cellAt h o with bytes:=R4 (cellAt h o).bytes (o.off+at').toNat s}
def a4P (h:List Cl) (o:Ob) (at':Int) (l:List Ob):List Cl:=h.set o.ref.toNat {cellAt h o with items:=R4 (cellAt h o).items (o.off+at').toNat l}
theorem c4l {h:List Cl} {o:Ob} (hv:a8l h o [6]=0):(0≤o.ref∧o.ref<h.length)∧(0≤o.off∧0≤o.len∧o.off+o.len≤1000)∧o.off+o.len≤(cellAt h o).bytes.length:=by
 obtain ⟨⟨hr1,hr2⟩,⟨hf1,hf2,hf3⟩,hk,hc⟩:=b2V hv
 have hk6:o.kind=6:=by simpa using hk
 obtain ⟨hc3,hc4,hc5⟩:=hc.resolve_left (by rw [hk6];decide)
 exact ⟨⟨hr1,by omega⟩,⟨hf1,hf2,hf3⟩,by simpa [hk6,Cl.length,hc4,I1] using hc5⟩
set_option maxHeartbeats 1000000 in
theorem a9f (C:Laid P) (h:List Cl) (o:Ob) (hs:small h) (_ho:o.n<9223372036854775808) (at1:Int) (s:List UInt8) (hl:s.length≤30) (hv:a8l h o [6]=0) (hr:a2m o at1 s.length=0):j6 P G U8 [.sl 7 (List.map k9 h),aO o,pI at1,.str s] [] (.sl 7 (List.map k9 (a4O h o at1 s))):=by
 refine i7 C (a9P C) rfl ?_
 obtain ⟨⟨hr1,hr2⟩,⟨hf1,hf2,hf3⟩,hc6⟩:=c4l hv
 obtain ⟨ha1,ha2,ha3⟩:=b9l hr (by omega) (by omega)
 have hsm:=a9v hs o
 obtain ⟨hm1,hm2,hm3,hm4⟩:=hsm
 have hw:IntKind.i64.wrap (o.off+at1)=o.off+at1:=wrap_small (by omega) (by omega)
 have hh:=hs.1
 have hw2:IntKind.i64.wrap (o.off+at1+s.length)=o.off+at1+s.length:=wrap_small (by omega) (by omega)
 have hca:((h[o.ref.toNat]?).getD cl0)=cellAt h o:=rfl
 repeat' ((conv=>whnf);first | (with_reducible refine sC (by kernel_rfl) ?_) | ((first | (with_reducible first | refine sB ?_ | refine x8 ?_ | refine x9 ?_) | refine sP (by rfl) ?_);first | refine Or.inl ⟨by first | assumption | (simp only [nm];first | done | assumption | omega),?_⟩ | refine Or.inr (Or.inl ⟨by first | assumption | (simp only [nm];first | done | assumption | omega),?_⟩) | (refine Or.inr (Or.inr ⟨fun hsp=>?_,fun hsp=>?_⟩) <;>(try simp only [nm] at hsp) <;>try subst hsp)) | refine ⟨_,_,(by rw [hw,hw2,put_eq (by omega) (by omega)];exact a1B C h o.ref {cellAt h o with bytes:=R4 (cellAt h o).bytes (o.off+at1).toNat s} hr1 hr2 hh),?_⟩ | refine sS (e8 (by rfl) (by rfl) (by omega) (a3l (d:=cl0) (by omega) (by omega))) ?_ | refine sS (a4V (s:=(cellAt h o).bytes) (l:=0) (by rfl) (by rfl) (by rfl) (by omega) (by rw [hw];omega) (by rw [hw];omega)) ?_ | refine sS (a4V (s:=(cellAt h o).bytes) (h:=(cellAt h o).bytes.length) (by rfl) (by rfl) (by rfl) (by rw [hw,hw2];omega) (by rw [hw,hw2];omega) (by omega)) ?_ | refine sS (c3c (by rfl) (by rfl) (by simp only [List.length_append,List.length_take,List.length_drop];omega)) ?_ | fail)
 all_goals (conv=>whnf)
 all_goals (first | exact PV.le.refl _ | skip)
theorem b6K {α:Type} {l x:List α} {k i:Nat} (hk:k+x.length≤l.length) (hi:i<l.length):(R4 l k x)[i]?=if k≤i∧i<k+x.length then x[i - k]? else l[i]?:=by
 unfold R4
 by_cases h1:i<k
 ·rw [if_neg (by omega),List.append_assoc,List.getElem?_append_left (by simp;omega),List.getElem?_take_of_lt h1]
 ·by_cases h2:i<k+x.length
  ·rw [if_pos ⟨by omega,h2⟩,List.append_assoc,List.getElem?_append_right (by simp;omega),List.getElem?_append_left (by simp;omega)]
   congr 1
   simp;omega
  ·rw [if_neg (by omega),List.getElem?_append_right (by simp;omega),List.getElem?_drop]
   congr 1
   simp;omega
theorem b4u {α:Type} {l:List α} {i:Nat} {v:α} (h:l[i]?=some v):l.take (i+1)=l.take i++[v]:=by
 rw [List.take_add_one,h];rfl
theorem a6E {α:Type} {l x:List α} {k:Nat} (hk:k+x.length≤l.length):(R4 l k x).length=l.length:=by
 unfold R4;simp;omega
set_option maxHeartbeats 1000000 in
theorem a9g (C:Laid P) (h:List Cl) (o:Ob) (hs:small h) (_ho:o.n<9223372036854775808) (at1:Int) (l:List Ob) (hl:l.length≤8) (hv:a8l h o [7,8]=0) (hr:a2m o at1 l.length=0):j6 P G U9 [.sl 7 (List.map k9 h),aO o,pI at1,.sl 7 (List.map g9 l)] [] (.sl 7 (List.map k9 (a4P h o at1 l))):=by
 refine i7 C (a9Q C) rfl ?_
 obtain ⟨⟨hr1,hr2⟩,⟨hf1,hf2,hf3⟩,hc6⟩:=c2U hv
 obtain ⟨ha1,ha2,ha3⟩:=b9l hr (by omega) (by omega)
 have hsm:=a9v hs o
 obtain ⟨hm1,hm2,hm3,hm4⟩:=hsm
 have hw:IntKind.i64.wrap (o.off+at1)=o.off+at1:=wrap_small (by omega) (by omega)
 have hh:=hs.1
 have hca:((h[o.ref.toNat]?).getD cl0)=cellAt h o:=rfl
 have hkl:(o.off+at1).toNat+l.length≤(cellAt h o).items.length:=by omega
 have hRl:=a6E hkl
 repeat' ((conv=>whnf);first | (with_reducible refine sC (by kernel_rfl) ?_) | ((first | (with_reducible first | refine sB ?_ | refine x8 ?_ | refine x9 ?_) | refine sP (by rfl) ?_);first | refine Or.inl ⟨by first | assumption | (simp only [nm,List.length_map];first | done | assumption | omega),?_⟩ | refine Or.inr (Or.inl ⟨by first | assumption | (simp only [nm,List.length_map];first | done | assumption | omega),?_⟩) | (refine Or.inr (Or.inr ⟨fun hsp=>?_,fun hsp=>?_⟩) <;>(try simp only [nm,List.length_map] at hsp) <;>try subst hsp)) | refine sS (e8 (by rfl) (by rfl) (by omega) (a3l (d:=cl0) (by omega) (by omega))) ?_ | fail)
 all_goals (conv=>whnf)
 intro X hX hW
 refine hW _ _ (.tmp 10 7 (by decide) (by rfl)) ?_
 refine a3K hX (fun st (a:Nat)=>st.upd [(10,.own 44 0 a),(11,.pv (pI (a:Int)))] [(44,.arr 7 (((R4 (cellAt h o).items (o.off+at1).toNat l).take a).map g9) false)]) (fun a m=>a+m=(cellAt h o).items.length∧(((cellAt h o).items.drop a).length=(cellAt h o).items.length - a)) 0 (cellAt h o).items.length (by (conv=>whnf);first | done | rfl) (by simp) ?_
 intro m i ih hI
 rcases a2T (cellAt h o).items i with ⟨x,hlt,hx⟩ | hge
 ·have hrow:=C0 (f:=g9) hx
  have hd:=a0w hx
  have hI2:=hI.2
  rw [hd] at hI2
  have hwi1:IntKind.i64.wrap ((i:Int) - o.off)=(i:Int) - o.off:=wrap_small (by omega) (by omega)
  have hwi:IntKind.i64.wrap (IntKind.i64.wrap ((i:Int) - o.off) - at1)=(i:Int) - o.off - at1:=by rw [hwi1];exact wrap_small (by omega) (by omega)
  have hRi:((R4 (cellAt h o).items (o.off+at1).toNat l).take i).length=i:=by rw [List.length_take,hRl];omega
  obtain ⟨v,hv,hR⟩:∃ v,((0≤IntKind.i64.wrap (IntKind.i64.wrap ((i:Int) - o.off) - at1)∧IntKind.i64.wrap (IntKind.i64.wrap ((i:Int) - o.off) - at1)<l.length)∧v=(l[(IntKind.i64.wrap (IntKind.i64.wrap ((i:Int) - o.off) - at1)).toNat]?).getD ob0∨¬ (0≤IntKind.i64.wrap (IntKind.i64.wrap ((i:Int) - o.off) - at1)∧IntKind.i64.wrap (IntKind.i64.wrap ((i:Int) - o.off) - at1)<l.length)∧x=v)∧(R4 (cellAt h o).items (o.off+at1).toNat l).take (i+1)=(R4 (cellAt h o).items (o.off+at1).toNat l).take i++[v]:=by
   by_cases hin:0≤IntKind.i64.wrap (IntKind.i64.wrap ((i:Int) - o.off) - at1)∧IntKind.i64.wrap (IntKind.i64.wrap ((i:Int) - o.off) - at1)<l.length
   ·refine ⟨_,.inl ⟨hin,rfl⟩,b4u ?_⟩
    rw [b6K hkl hlt,if_pos (by omega),show i - (o.off+at1).toNat=(IntKind.i64.wrap (IntKind.i64.wrap ((i:Int) - o.off) - at1)).toNat by omega,List.getElem?_eq_getElem (by omega)]
    rfl
   ·refine ⟨_,.inr ⟨hin,rfl⟩,b4u ?_⟩
    rw [b6K hkl hlt,if_neg (by omega),hx]
  rcases hv with ⟨hin,rfl⟩ | ⟨hin,rfl⟩
  repeat' ((conv=>whnf);first | (with_reducible refine sC (by kernel_rfl) ?_) | ((first | (with_reducible first | refine sB ?_ | refine x8 ?_ | refine x9 ?_) | refine sP (by rfl) ?_);first | refine Or.inl ⟨by first | assumption | (simp only [nm,List.length_map,hca];first | done | assumption | omega),?_⟩ | refine Or.inr (Or.inl ⟨by first | assumption | (simp only [nm,List.length_map,hca];first | done | assumption | omega),?_⟩) | (refine Or.inr (Or.inr ⟨fun hsp=>?_,fun hsp=>?_⟩) <;>(try simp only [nm,List.length_map,hca] at hsp) <;>try subst hsp)) | refine ⟨_,_,(by rw [a1D (f:=g9) (l:=(R4 (cellAt h o).items (o.off+at1).toNat l).take i) (by rw [List.length_take,hRl];omega),List.take_of_length_le (l:=(R4 (cellAt h o).items (o.off+at1).toNat l)) (by omega)];exact a1B C h o.ref {cellAt h o with items:=(R4 (cellAt h o).items (o.off+at1).toNat l)} hr1 hr2 hh),?_⟩ | refine sS (e8 (by rfl) (by rfl) (by omega) hrow) ?_ | refine sS (e8 (by rfl) (by rfl) (by omega) (a3l (d:=ob0) (by omega) (by omega))) ?_ | refine sS (m7 (f:=g9) (x':=[(l[(IntKind.i64.wrap (IntKind.i64.wrap ((i:Int) - o.off) - at1)).toNat]?).getD ob0]) (by rfl) (by rfl) hRi (by first | exact e9 | exact d6 | exact d7 (by rfl) (by rfl)) (by rfl) (by simp only [List.length_cons,List.length_nil];omega)) ?_ | refine sS (m7 (f:=g9) (x':=[x]) (by rfl) (by rfl) hRi (by first | exact e9 | exact d6 | exact d7 (by rfl) (by rfl)) (by rfl) (by simp only [List.length_cons,List.length_nil];omega)) ?_ | fail)
  all_goals (conv=>whnf)
  all_goals first
   | (refine ih (m - 1) (i+1) _ (by omega) ⟨by (try dsimp only);omega,?_⟩ (by (conv=>whnf);first | done | rfl | (simp (disch:=omega) only [z6,hR,List.map_append,List.map_cons,List.map_nil,List.length_cons,List.length_nil,Nat.zero_add])))
   | (with_reducible first | refine l8 ?_ | refine E2 ?_ | refine C7 ?_)
   | (refine E7 ?_;simp only [nm])
   | refine le_of_eq ?_
  all_goals (first | rfl | exact PV.le.refl _ | grind)
 ·have hd:(cellAt h o).items.drop i=[]:=List.drop_eq_nil_of_le hge
  have hI2:=hI.2
  rw [hd] at hI2
  repeat' ((conv=>whnf);first | (with_reducible refine sC (by kernel_rfl) ?_) | ((first | (with_reducible first | refine sB ?_ | refine x8 ?_ | refine x9 ?_) | refine sP (by rfl) ?_);first | refine Or.inl ⟨by first | assumption | (simp only [nm,List.length_map,hca];first | done | assumption | omega),?_⟩ | refine Or.inr (Or.inl ⟨by first | assumption | (simp only [nm,List.length_map,hca];first | done | assumption | omega),?_⟩) | (refine Or.inr (Or.inr ⟨fun hsp=>?_,fun hsp=>?_⟩) <;>(try simp only [nm,List.length_map,hca] at hsp) <;>try subst hsp)) | refine ⟨_,_,(by rw [a1D (f:=g9) (l:=(R4 (cellAt h o).items (o.off+at1).toNat l).take i) (by rw [List.length_take,hRl];omega),List.take_of_length_le (l:=(R4 (cellAt h o).items (o.off+at1).toNat l)) (by omega)];exact a1B C h o.ref {cellAt h o with items:=(R4 (cellAt h o).items (o.off+at1).toNat l)} hr1 hr2 hh),?_⟩ | fail)
  all_goals (conv=>whnf)
  all_goals first
   | (with_reducible first | refine l8 ?_ | refine E2 ?_ | refine C7 ?_)
   | (refine E7 ?_;simp only [nm])
   | refine le_of_eq ?_
  all_goals (first | rfl | exact PV.le.refl _ | grind)
end Go.Ab.Td

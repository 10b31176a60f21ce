/- A part of the proof: the texts TdVq, TdVx, TdVy. Under: nothing. -/
import Derived.Test.YtomfaadmmchdcaaGreatDoorG25
import Derived.Test.YtomfaadmmchdcaaGreatDoorG14
set_option linter.unusedVariables false
namespace Go.Ab.Td
set_option maxRecDepth 100000
set_option maxRecDepth 100000
open Go Go.Ab
variable {P:Program}
set_option linter.unusedSimpArgs false
attribute [local irreducible] e9
theorem b5d {h:List Cl} {c:Cl} (hr:S7 h c):c.small:=by
 rcases hr with ⟨-,h1,h2,h3,h4, -⟩ | ⟨-,h1,h2, -,h4,h5, -⟩ | ⟨-,h1,h2, -,h4,h5,h6,h7, -⟩ | ⟨-,h1,h2,h3,h4, -⟩
 ·exact ⟨by omega,by omega,by omega,by omega⟩
 ·exact ⟨by omega,by omega,by omega,by rw [h1];simp⟩
 ·exact ⟨by omega,by omega,by omega,by rw [h1];simp⟩
 ·exact ⟨by omega,by omega,by omega,by omega⟩
theorem a6T {h:List Cl} (hv:a5S h) (hl:h.length≤1000000):small h:=⟨hl,fun c hc=>b5d (hv.1 c hc)⟩
theorem c4F {c c':Cl} {k v:Ob} (hc:nC c) (hk:k.n<9223372036854775808) (hv:v.n<9223372036854775808) (hp:Y2 c k v=some c'):nC c':=by
 obtain ⟨n1,n2,n3⟩:=hc
 unfold Y2 at hp
 split at hp
 ·cases hp
  refine ⟨n1,n2,fun o ho=>?_⟩
  rcases List.mem_or_eq_of_mem_set ho with ho | rfl
  ·exact n3 o ho
  ·exact hv
 ·split at hp
  ·cases hp
  ·cases hp
   refine ⟨n1,fun o ho=>?_,fun o ho=>?_⟩
   ·rcases List.mem_append.1 ho with ho | ho
    ·exact n2 o ho
    ·simp only [List.mem_singleton] at ho;subst ho;exact hk
   ·rcases List.mem_append.1 ho with ho | ho
    ·exact n3 o ho
    ·simp only [List.mem_singleton] at ho;subst ho;exact hv
theorem c4G {c:Cl} (hc:nC c) (i:Nat):nC (a6a c i):=
 ⟨hc.1,fun o ho=>hc.2.1 o (List.mem_of_mem_eraseIdx ho),fun o ho=>hc.2.2 o (List.mem_of_mem_eraseIdx ho)⟩
theorem b4A {h:List Cl} {c:Cl} (hs:∀ d ∈ h,nC d) (hc:nC c) (j:Nat):∀ d ∈ h.set j c,nC d:=by
 intro d hd
 rcases List.mem_or_eq_of_mem_set hd with hd | rfl
 ·exact hs d hd
 ·exact hc
theorem c6u {h:List Cl} {o:Ob} (hf:fits h o) (hk:o.kind=9):U0 h o [9]=0:=by
 unfold U0
 rw [if_neg (fun x=>x hf),if_pos (by rw [hk];simp)]
theorem kc0 (C:Laid P) {h:List Cl} (hv:a5S h) (hl:h.length≤1000000) (hn:∀ c ∈ h,nC c):l3 P G n_heap_Check [.sl 7 (List.map j8 h)] [] (pI 0):=by
 have k:=ok_heap_Check C h (a6T hv hl) (fun c hc=>(hn c hc).c8z)
 rw [((chk_cases h).resolve_right (fun hx=>hx.1 hv)).2] at k
 exact k
end Go.Ab.Td
namespace Go.Ab.Td
set_option maxRecDepth 100000
set_option maxRecDepth 100000
open Go Go.Ab
variable {P:Program}
set_option linter.unusedSimpArgs false
def VH (h:List Cl):Prop:=a5S h∧h.length≤20000
theorem VH.small {h:List Cl} (t:VH h):small h:=a6T t.1 (by have:=t.2;omega)
theorem b5c {h:List Cl} {c:Cl} (hr:S7 h c):(c.kind=1→c.items=[]∧c.bytes.length≤1000)∧(c.kind=2→c.bytes=[]∧c.items.length≤1000):=by
 rcases hr with ⟨k,h1,h2, -⟩ | ⟨k,h1,h2, -⟩ | ⟨k, -⟩ | ⟨k, -⟩
 ·exact ⟨fun _=>⟨List.length_eq_zero_iff.1 h2,h1⟩,fun e=>by omega⟩
 ·exact ⟨fun e=>by omega,fun _=>⟨h1,h2⟩⟩
 ·exact ⟨fun e=>by omega,fun e=>by omega⟩
 ·exact ⟨fun e=>by omega,fun e=>by omega⟩
theorem a3j {h:List Cl} (t:VH h) {kd cl A B N:Int} (hk:(kd=6∧cl=1)∨((kd=7∨kd=8)∧cl=2)∨(kd=9∧cl=3)∨(kd=11∧cl=4)) (hA:0≤A∧A<256) (hB:0≤B∧B<256):fits h (a1l h kd cl A B N):=by
 unfold a1l
 by_cases hp:k9 (h.map j8) cl A<0
 ·rw [if_pos hp];exact fits_int (by omega) (by omega) false
 ·rw [if_neg hp]
  obtain ⟨j,c,ej,hc,hcl,hj⟩:=b4H hp
  have hl:=t.2
  have hs:=b5c (t.1.1 c (List.mem_of_getElem? hc))
  rw [ej]
  have hc':h[((j:Int)).toNat]?=some c:=by simpa using hc
  by_cases h3:cl=3∨cl=4
  ·rw [if_pos h3]
   have hkd:kd=9∧cl=3∨kd=11∧cl=4:=by omega
   refine ⟨?_,fun _=>⟨c,hc',?_,fun hx=>?_⟩⟩
   ·rcases hkd with ⟨rfl,_⟩ | ⟨rfl,_⟩ <;>(unfold Ob.right Ob.blank;simp;omega)
   ·rcases hkd with ⟨rfl,rfl⟩ | ⟨rfl,rfl⟩ <;>exact hcl
   ·dsimp only at hx;omega
  ·rw [if_neg h3]
   have hkd:kd=6∧cl=1∨(kd=7∨kd=8)∧cl=2:=by omega
   have hlen:(c.length:Int)=(c.bytes.length:Int)+c.items.length∧c.length≤1000:=by
    unfold Cl.length
    rcases hkd with ⟨_,rfl⟩ | ⟨_,rfl⟩
    ·obtain ⟨e1,e2⟩:=hs.1 hcl
     rw [if_pos hcl,e1];simp;omega
    ·obtain ⟨e1,e2⟩:=hs.2 hcl
     rw [if_neg (by omega),e1];simp;omega
   have fin:∀ (e:Bool) (o l:Int),0≤o→0≤l→o+l≤c.length→fits h ⟨kd,e,0,[],(j:Int),o,l⟩:=by
    intro e o l h1 h2 h3
    refine ⟨?_,fun _=>⟨c,hc',?_,fun _=>h3⟩⟩
    ·rcases hkd with ⟨rfl,_⟩ | ⟨rfl | rfl,_⟩ <;>(unfold Ob.right Ob.blank;simp;omega)
    ·rcases hkd with ⟨rfl,rfl⟩ | ⟨rfl | rfl,rfl⟩ <;>exact hcl
   simp only [hc',Option.getD_some]
   rw [← hlen.1]
   have hn0:0≤c.length:=by omega
   split
   ·have t1:=Int.tmod_nonneg (c.length+1) hB.1
    have t2:=Int.tmod_lt_of_pos B (show 0<c.length+1 by omega)
    have t3:=Int.tmod_nonneg (c.length - B.tmod (c.length+1)+1) (Int.tdiv_nonneg hB.1 (show (0:Int)≤3 by decide))
    have t4:=Int.tmod_lt_of_pos (B.tdiv 3) (show 0<c.length - B.tmod (c.length+1)+1 by omega)
    exact fin _ _ _ t1 t3 (by omega)
   ·exact fin _ _ _ (by decide) hn0 (by omega)
theorem b8w {h:List Cl} (t:VH h) (K A B N:Int) (hA:0≤A∧A<256) (hB:0≤B∧B<256) (hN: -2147483648≤N∧N≤2147483647):fits h (a6H h K A B N):=by
 have r2:0≤A.tmod 2∧A.tmod 2<2:=⟨Int.tmod_nonneg _ hA.1,Int.tmod_lt_of_pos _ (by decide)⟩
 have r10: -10<N.tmod 10∧N.tmod 10<10:=⟨Int.lt_tmod_of_pos _ (by decide),Int.tmod_lt_of_pos _ (by decide)⟩
 have r20: -1048576<N.tmod 1048576∧N.tmod 1048576<1048576:=⟨Int.lt_tmod_of_pos _ (by decide),Int.tmod_lt_of_pos _ (by decide)⟩
 have wl:=b6d A
 unfold a6H
 refine o7 (fun _=>s7 (by unfold Ob.right Ob.blank V8;simp) rfl) fun _=>?_
 refine o7 (fun _=>s7 (by unfold Ob.right Ob.blank;simp) rfl) fun _=>?_
 refine o7 (fun _=>s7 (by unfold Ob.right Ob.blank;simp;omega) rfl) fun _=>?_
 refine o7 (fun _=>fits_int (by omega) (by omega) false) fun _=>?_
 refine o7 (fun _=>fits_int (by omega) (by omega) false) fun _=>?_
 refine o7 (fun _=>s7 (by unfold Ob.right Ob.blank;simp;omega) rfl) fun _=>?_
 refine o7 (fun _=>s7 (by unfold Ob.right Ob.blank;simp;omega) rfl) fun _=>?_
 refine o7 (fun _=>s7 (by unfold Ob.right Ob.blank;simp;omega) rfl) fun _=>?_
 refine o7 (fun _=>a3j t (by omega) hA hB) fun _=>?_
 refine o7 (fun _=>a3j t (by omega) hA hB) fun _=>?_
 refine o7 (fun _=>a3j t (by omega) hA hB) fun _=>?_
 refine o7 (fun _=>a3j t (by omega) hA hB) fun _=>?_
 refine o7 (fun _=>s7 (by unfold Ob.right Ob.blank;simp) rfl) fun _=>?_
 exact a3j t (by omega) hA hB
end Go.Ab.Td
namespace Go.Ab.Td
set_option maxRecDepth 100000
set_option maxRecDepth 100000
open Go Go.Ab
set_option linter.unusedSimpArgs false
def Q8 (h' h:List Cl):Prop:=h'.length≤h.length∧∀ (k:Nat) (c':Cl),h'[k]?=some c'→∃ c,h[k]?=some c∧c.kind=c'.kind∧(c.kind=3∨c.length=c'.length)
theorem Q8.refl (h:List Cl):Q8 h h:=⟨Nat.le_refl _,fun _ c hc=>⟨c,hc,rfl,.inr rfl⟩⟩
theorem Q8.trans {a b c:List Cl} (h1:Q8 a b) (h2:Q8 b c):Q8 a c:=by
 refine ⟨Nat.le_trans h1.1 h2.1,fun k x hx=>?_⟩
 obtain ⟨y,hy,e1,e2⟩:=h1.2 k x hx
 obtain ⟨z,hz,f1,f2⟩:=h2.2 k y hy
 refine ⟨z,hz,by rw [f1,e1],?_⟩
 rcases f2 with f2 | f2
 ·exact .inl f2
 ·rcases e2 with e2 | e2
  ·exact .inl (by rw [f1];exact e2)
  ·exact .inr (by rw [f2,e2])
theorem Q8.app (h more:List Cl):Q8 h (h++more):=
 ⟨by simp,fun k c hc=>⟨c,by rw [List.getElem?_append_left (List.getElem?_eq_some_iff.1 hc).1];exact hc,rfl,.inr rfl⟩⟩
theorem Q8.set {h:List Cl} {j:Nat} {c c':Cl} (hc:h[j]?=some c) (hk:c'.kind=c.kind) (hl:c'.kind=3∨c'.length=c.length):Q8 h (h.set j c'):=by
 refine ⟨by simp,fun k x hx=>?_⟩
 by_cases e:j=k
 ·subst e
  rw [hc] at hx
  cases hx
  exact ⟨c',List.getElem?_set_self (List.getElem?_eq_some_iff.1 hc).1,hk,hl⟩
 ·exact ⟨x,by rw [List.getElem?_set_ne e];exact hx,rfl,.inr rfl⟩
theorem b9X (o:Ob):o.comp↔E8 o.kind≠0:=by
 unfold Ob.comp
 rcases a3N o.kind with ⟨h,e⟩ | ⟨h,e⟩ | ⟨h,e⟩ | ⟨h,e⟩ | ⟨h1,h2,h3,h4,h5,e⟩
 ·rw [e];omega
 ·rw [e];omega
 ·rw [e];omega
 ·rw [e];omega
 ·rw [e];omega
theorem b9T {k:Int} (h:E8 k=3):k=9:=by
 rcases a3N k with ⟨_,e⟩ | ⟨_,e⟩ | ⟨h9,e⟩ | ⟨_,e⟩ | ⟨_,_,_,_,_,e⟩ <;>omega
theorem a3i {h' h:List Cl} (ho:Q8 h' h) {o:Ob} (hf:fits h' o):fits h o:=by
 refine ⟨hf.1,fun hk=>?_⟩
 obtain ⟨c',hc',h1,h2⟩:=hf.2 hk
 obtain ⟨c,hc,e1,e2⟩:=ho.2 _ c' hc'
 refine ⟨c,hc,by rw [e1];exact h1,fun h9=>?_⟩
 rcases e2 with e2 | e2
 ·have:=b9T (k:=o.kind) (by rw [← h1,← e1];exact e2)
  omega
 ·rw [e2];exact h2 h9
theorem b1P {h' h:List Cl} (ho:Q8 h' h) {o:Ob} (hf:fits h o) (hn:¬ b6L h'.length o):fits h' o:=by
 refine ⟨hf.1,fun hk=>?_⟩
 obtain ⟨c,hc,h1,h2⟩:=hf.2 hk
 have hr:=(a7g hf.1).1
 have hlt:o.ref<h'.length:=by
  have:¬ ((h'.length:Int)≤o.ref):=fun x=>hn ⟨(b9X o).2 hk,x⟩
  omega
 obtain ⟨c',hc'⟩:∃ c',h'[o.ref.toNat]?=some c':=⟨_,List.getElem?_eq_getElem (by omega)⟩
 obtain ⟨d,hd,e1,e2⟩:=ho.2 _ c' hc'
 rw [hc] at hd
 cases hd
 refine ⟨c',hc',by rw [← e1];exact h1,fun h9=>?_⟩
 rcases e2 with e2 | e2
 ·have:=b9T (k:=o.kind) (by rw [← h1];exact e2)
  omega
 ·rw [← e2];exact h2 h9
structure SH (h:List Cl):Prop where
 v:a5S h
 len:10≤h.length∧h.length≤60
 tot:0≤F8 0 h∧F8 0 h≤704+41*((h.length:Int) - 10)
 nc:∀ c ∈ h,nC c
theorem SH.vh {h:List Cl} (t:SH h):VH h:=⟨t.v,by have:=t.len;omega⟩
theorem SH.sm {h:List Cl} (t:SH h):small h:=t.vh.small
theorem SH.app {h:List Cl} (t:SH h) (hl:h.length<60) {c:Cl} (h1:a7l c) (h2:S7 h c) (h3:0≤c.size) (h4:c.size≤41):SH (h++[c]):=by
 obtain ⟨hv,⟨l1,l2⟩,⟨q1,q2⟩,hn⟩:=t
 have e:F8 0 (h++[c])=F8 0 h+c.size:=by rw [a9G,wrap_small (by omega) (by omega)]
 have el:(h++[c]).length=h.length+1:=by simp
 refine ⟨⟨fun d hd=>?_,by rw [e];omega⟩,by omega,by rw [e,el];omega,fun d hd=>?_⟩
 ·rcases List.mem_append.1 hd with hd | hd
  ·exact a0c (fun o ho=>a6u ho) (hv.1 d hd)
  ·simp only [List.mem_singleton] at hd;subst hd;exact a0c (fun o ho=>a6u ho) h2
 ·rcases List.mem_append.1 hd with hd | hd
  ·exact hn d hd
  ·simp only [List.mem_singleton] at hd;subst hd;exact a7l.nC h1
theorem SH.set {h:List Cl} (t:SH h) {j:Nat} {c c':Cl} (hc:h[j]?=some c) (hk:c'.kind=c.kind) (hl:c'.kind=3∨c'.kind=4∨c'.length=c.length) (hs:c'.size=c.size) (hr:S7 h c') (hn:nC c'):SH (h.set j c'):=
 ⟨a7j t.v hc hk hl hs hr,by rw [List.length_set];exact t.len,by rw [a9H hs h j 0 hc,List.length_set];exact t.tot,b4A t.nc hn j⟩
structure SI (F:Prop) (m:Nat) (s:B8) (l:List Sn) (ts:List B8):Prop where
 h3:s.f3=l.map b3t
 h62:s.f62=ts.map grO
 sh:SH s.heap
 ol:s.ops.length≤100
 of':F→∀ o ∈ s.ops,fits s.heap o
 on:∀ o ∈ s.ops,o.n<9223372036854775808
 dl:s.d5.length≤20
 df:F→∀ o ∈ s.d5,fits s.heap o
 ll:l.length≤10
 tl:ts.length=l.length
 sv:∀ (i:Nat) (x:Sn),l[i]?=some x→x.st=(i:Int)∧SH x.heap∧Q8 x.heap s.heap
 pw:∀ (i k:Nat) (x y:Sn),i<k→l[i]?=some x→l[k]?=some y→Q8 x.heap y.heap
 made:0≤s.f4∧s.f4≤m
theorem SI.more {F:Prop} {m n:Nat} {s:B8} {l:List Sn} {ts:List B8} (t:SI F m s l ts) (h:m≤n):SI F n s l ts:=
 {t with made:=⟨t.made.1,by have:=t.made.2;omega⟩}
theorem SI.b2D {F:Prop} {m:Nat} {s:B8} {l:List Sn} {ts:List B8} (t:SI F m s l ts) {ops:List Ob} (h1:ops.length≤100) (h2:F→∀ o ∈ ops,fits s.heap o) (h3:∀ o ∈ ops,o.n<9223372036854775808):SI F m {s with ops:=ops} l ts:=
 ⟨t.h3,t.h62,t.sh,h1,h2,h3,t.dl,t.df,t.ll,t.tl,t.sv,t.pw,t.made⟩
theorem SI.setDicts {F:Prop} {m:Nat} {s:B8} {l:List Sn} {ts:List B8} (t:SI F m s l ts) {d:List Ob} (h1:d.length≤20) (h2:F→∀ o ∈ d,fits s.heap o):SI F m {s with d5:=d} l ts:=
 ⟨t.h3,t.h62,t.sh,t.ol,t.of',t.on,h1,h2,t.ll,t.tl,t.sv,t.pw,t.made⟩
theorem b9x {n:Int} (h:1≤n):(svO n).right:=by
 unfold svO Ob.right Ob.blank;simp;omega
theorem SI.save {F:Prop} {m:Nat} {s:B8} {l:List Sn} {ts:List B8} (t:SI F m s l ts) (hm:m<1000000) (hl:l.length<10) (ho:s.ops.length<100):SI F (m+1) (svS s) (l++[(⟨s.f4+1,s.heap,(l.length:Int)⟩:Sn)]) (ts++[s]):=by
 have hmd:=t.made
 have w:IntKind.i64.wrap (s.f4+1)=s.f4+1:=wrap_small (by omega) (by omega)
 have a3:(svS s).f3=(l++[(⟨s.f4+1,s.heap,(l.length:Int)⟩:Sn)]).map b3t:=by
  show s.f3++_=_
  rw [w,t.h3,t.h62]
  simp [b3t,t.tl]
 have a62:(svS s).f62=(ts++[s]).map grO:=by
  show s.f62++_=_
  rw [t.h62];simp
 have at':∀ (i:Nat) (x:Sn),(l++[(⟨s.f4+1,s.heap,(l.length:Int)⟩:Sn)])[i]?=some x→(l[i]?=some x)∨(i=l.length∧x=⟨s.f4+1,s.heap,(l.length:Int)⟩):=by
  intro i x hx
  by_cases hi:i<l.length
  ·rw [List.getElem?_append_left hi] at hx;exact .inl hx
  ·rw [List.getElem?_append_right (by omega)] at hx
   have:i - l.length=0:=by
    have:=(List.getElem?_eq_some_iff.1 hx).1
    simp at this;omega
   rw [this] at hx
   simp only [List.getElem?_cons_zero,Option.some.injEq] at hx
   exact .inr ⟨by omega,hx.symm⟩
 refine ⟨a3,a62,t.sh,?_,?_,?_,t.dl,t.df,by simp;omega,by simp [t.tl],?_,?_,?_⟩
 ·show (s.ops++_).length≤100;simp;omega
 ·intro hF o hx
  rcases List.mem_append.1 (show o ∈ s.ops++[svO (IntKind.i64.wrap (s.f4+1))] from hx) with hx | hx
  ·exact t.of' hF o hx
  ·simp only [List.mem_singleton] at hx;subst hx
   exact s7 (b9x (by rw [w];omega)) rfl
 ·intro o hx
  rcases List.mem_append.1 (show o ∈ s.ops++[svO (IntKind.i64.wrap (s.f4+1))] from hx) with hx | hx
  ·exact t.on o hx
  ·simp only [List.mem_singleton] at hx;subst hx
   show IntKind.i64.wrap (s.f4+1)<_
   rw [w];omega
 ·intro i x hx
  rcases at' i x hx with hx | ⟨rfl,rfl⟩
  ·exact t.sv i x hx
  ·exact ⟨rfl,t.sh,Q8.refl _⟩
 ·intro i k x y hik hx hy
  rcases at' i x hx with hx | ⟨rfl,rfl⟩
  ·rcases at' k y hy with hy | ⟨rfl,rfl⟩
   ·exact t.pw i k x y hik hx hy
   ·exact (t.sv i x hx).2.2
  ·rcases at' k y hy with hy | ⟨rfl,rfl⟩
   ·have:=(List.getElem?_eq_some_iff.1 hy).1;omega
   ·omega
 ·show 0≤IntKind.i64.wrap (s.f4+1)∧IntKind.i64.wrap (s.f4+1)≤((m+1:Nat):Int)
  rw [w];omega
theorem SI.restore {F:Prop} {m:Nat} {s:B8} {l:List Sn} {ts:List B8} (t:SI F m s l ts) {lo:List Ob} {o:Ob} (hop:s.ops=lo++[o]) {i:Nat} {x:Sn} (hx:l[i]?=some x) (g:B8) (h1:¬ ∃ o ∈ lo,b6L x.heap.length o) (h2:¬ ∃ o ∈ s.d5,b6L x.heap.length o):SI F m (rsS s lo x.heap g i i) (l.take i) (ts.take i):=by
 obtain ⟨q1,q2,q3⟩:=t.sv i x hx
 have hi:=(List.getElem?_eq_some_iff.1 hx).1
 have hol:=t.ol
 rw [hop] at hol
 simp at hol
 refine ⟨?_,?_,q2,?_,?_,?_,t.dl,?_,by rw [List.length_take];have:=t.ll;omega,by rw [List.length_take,List.length_take,t.tl],?_,?_,t.made⟩
 ·show s.f3.take i=_;rw [t.h3,List.map_take]
 ·show s.f62.take i=_;rw [t.h62,List.map_take]
 ·show lo.length≤100;omega
 ·intro hF p hp
  exact b1P q3 (t.of' hF p (by rw [hop];exact List.mem_append_left _ hp)) (fun hn=>h1 ⟨p,hp,hn⟩)
 ·intro p hp
  exact t.on p (by rw [hop];exact List.mem_append_left _ hp)
 ·intro hF p hp
  exact b1P q3 (t.df hF p hp) (fun hn=>h2 ⟨p,hp,hn⟩)
 ·intro k y hy
  have hk:k<i:=by have:=(List.getElem?_eq_some_iff.1 hy).1;rw [List.length_take] at this;omega
  rw [List.getElem?_take_of_lt hk] at hy
  exact ⟨(t.sv k y hy).1,(t.sv k y hy).2.1,t.pw k i y x hk hy hx⟩
 ·intro k k2 y z hkk hy hz
  have hk2:k2<i:=by have:=(List.getElem?_eq_some_iff.1 hz).1;rw [List.length_take] at this;omega
  rw [List.getElem?_take_of_lt (by omega)] at hy
  rw [List.getElem?_take_of_lt hk2] at hz
  exact t.pw k k2 y z hkk hy hz
end Go.Ab.Td

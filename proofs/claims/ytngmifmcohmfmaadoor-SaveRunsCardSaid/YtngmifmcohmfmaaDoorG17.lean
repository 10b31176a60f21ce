/- A part of the proof: the texts TdRm, TdHi, TdVf, TdVg, TdAr2, TdAr4, TdVl, TdVq, TdVx. Under: nothing. -/
import Derived.Test.YtngmifmcohmfmaaDoorG16
import Derived.Test.YtngmifmcohmfmaaDoorG05
import Derived.Test.YtngmifmcohmfmaaDoorG15
import Derived.Test.YtngmifmcohmfmaaDoorG13
import Derived.Test.YtngmifmcohmfmaaDoorG14
import Derived.Test.YtngmifmcohmfmaaDoorG12
namespace Go.Ab.Td
set_option maxRecDepth 100000
set_option maxRecDepth 100000
open Go Go.Ab
variable {P:Program}
set_option linter.unusedSimpArgs false
attribute [local irreducible] f0 c4e
theorem c5G {k:Ob} {l:List Ob} (h:0≤i9 k 0 l):∃ i:Nat,i9 k 0 l=(i:Int)∧i<l.length:=by
 rcases b8b k l 0 with h1 | ⟨h1,h2⟩
 ·omega
 ·exact ⟨(i9 k 0 l).toNat,by omega,by omega⟩
end Go.Ab.Td
namespace Go.Ab.Td
set_option maxRecDepth 100000
set_option maxRecDepth 100000
open Go Go.Ab
structure HI (n:Nat) (h:List Cl):Prop where
 len:10≤h.length∧h.length≤20
 cat:h[4]?=some c5Z
 c7x:∀ j:Nat,5≤j→j≤9→∃ c,h[j]?=some c∧c.kind=3
 sz:∀ c ∈ h,c.keys.length≤n∧c.w7.length≤n∧c.items.length≤1000∧c.bytes.length≤4000
 shape:∀ c ∈ h,(c.kind=1→c.items=[]∧c.bytes.length≤1000)∧(c.kind=2→c.bytes=[]∧c.items.length≤1000)
 w7:∀ c ∈ h,∀ o ∈ c.w7,o.n<9223372036854775808
theorem HI.small {n:Nat} {h:List Cl} (t:HI n h) (hn:n≤1000000):small h:=
 ⟨by have:=t.len;omega,fun c hc=>by obtain ⟨a,b,c,d⟩:=t.sz c hc;exact ⟨by omega,by omega,by omega,by omega⟩⟩
theorem b5F {l:List Ob} {m:Nat} (h:SlR (.sl 7 (l.map i6)) m):l.length≤1000:=by
 rcases h with ⟨h, -⟩ | ⟨rr,h,hl,hm, -⟩
 ·cases h
 ·simp only [PV.sl.injEq,true_and] at h
  subst h
  simp only [List.length_map] at hl
  omega
theorem a7O.lens {c:Cl} (h:a7O c):c.keys.length≤1000∧c.w7.length≤1000∧c.items.length≤1000∧c.bytes.length≤4000:=by
 obtain ⟨-, -,k,b,q1,q2,q3,mx,a,m1,m2,m3,he,hb,h1,h2,h3⟩:=h
 simp only [j9,List.cons.injEq,PV.int.injEq,PV.str.injEq,true_and] at he
 obtain ⟨-,e2,e3,e4,e5, -⟩:=he
 subst e2 e3 e4 e5
 exact ⟨b5F h2,b5F h3,b5F h1,hb.1⟩
theorem a2E.hi {h:List Cl} (t:a2E h):HI 1000 h:=by
 have hok:=t.ok
 have hl:=t.len
 obtain ⟨h4,h5,h10⟩:=c4K t
 exact ⟨⟨h10,hl⟩,h4,fun j a b=>⟨_,h5 j a b,rfl⟩,fun c hc=>(hok c hc).lens,fun c hc=>(hok c hc).shape,fun c hc=>(hok c hc).2.1⟩
theorem b9W {c c':Cl} {k v:Ob} (hp:a2B c k v=some c'):c'.kind=c.kind∧c'.bytes=c.bytes∧c'.items=c.items∧c'.keys.length≤c.keys.length+1∧c'.w7.length≤c.w7.length+1∧∀ o ∈ c'.w7,o ∈ c.w7∨o=v:=by
 unfold a2B at hp
 split at hp
 ·cases hp
  refine ⟨rfl,rfl,rfl,by dsimp only;omega,by dsimp only;rw [List.length_set];omega,fun o ho=>?_⟩
  exact List.mem_or_eq_of_mem_set ho
 ·split at hp
  ·cases hp
  ·cases hp
   refine ⟨rfl,rfl,rfl,by dsimp only;rw [List.length_append];simp,by dsimp only;rw [List.length_append];simp,fun o ho=>?_⟩
   dsimp only at ho
   rcases List.mem_append.1 ho with h | h
   ·exact .inl h
   ·exact .inr (by simpa using h)
theorem HI.put {n:Nat} {h:List Cl} (t:HI n h) {j:Nat} (h5:5≤j) (h9:j≤9) {c c':Cl} (hc:h[j]?=some c) {k v:Ob} (hp:a2B c k v=some c') (hv:v.n<9223372036854775808):HI (n+1) (h.set j c'):=by
 obtain ⟨p1,p2,p3,p4,p5,p6⟩:=b9W hp
 have hm:=List.mem_of_getElem? hc
 have hck:c.kind=3:=by
  obtain ⟨d,hd,hk⟩:=t.c7x j h5 h9
  rw [hc] at hd;cases hd;exact hk
 have mem:∀ x ∈ h.set j c',x ∈ h∨x=c':=fun x hx=>List.mem_or_eq_of_mem_set hx
 refine ⟨by rw [List.length_set];exact t.len,?_,fun i a b=>?_,fun x hx=>?_,fun x hx=>?_,fun x hx=>?_⟩
 ·rw [List.getElem?_set_ne (by omega)];exact t.cat
 ·by_cases hij:j=i
  ·subst hij
   rw [List.getElem?_set_self (by have:=(List.getElem?_eq_some_iff.1 hc).1;exact this)]
   exact ⟨c',rfl,by rw [p1];exact hck⟩
  ·rw [List.getElem?_set_ne hij];exact t.c7x i a b
 ·rcases mem x hx with hx | rfl
  ·obtain ⟨a,b,c,d⟩:=t.sz x hx;exact ⟨by omega,by omega,c,d⟩
  ·obtain ⟨a,b,cc,d⟩:=t.sz c hm
   exact ⟨by omega,by omega,by rw [p3];exact cc,by rw [p2];exact d⟩
 ·rcases mem x hx with hx | rfl
  ·exact t.shape x hx
  ·exact ⟨fun hk=>by omega,fun hk=>by omega⟩
 ·rcases mem x hx with hx | rfl
  ·exact t.w7 x hx
  ·intro o ho
   rcases p6 o ho with h | rfl
   ·exact t.w7 c hm o h
   ·exact hv
end Go.Ab.Td
namespace Go.Ab.Td
set_option maxRecDepth 100000
set_option maxRecDepth 100000
open Go Go.Ab
set_option linter.unusedSimpArgs false
theorem b9J (k:Ob):∀ (l:List Ob) (i s:Nat),i9 k s l=((s+i:Nat):Int)→l[i]?=some k
 | [],i,s,h=>by simp [i9] at h;omega
 | x::l,i,s,h=>by
   unfold i9 at h
   by_cases e:x=k
   ·rw [if_pos e] at h
    obtain rfl:i=0:=by omega
    simp [e]
   ·rw [if_neg e] at h
    cases i with
    | zero=>
      rcases b8b k l (s+1) with q | ⟨q, -⟩ <;>omega
    | succ i=>
      simp only [List.getElem?_cons_succ]
      exact b9J k l i (s+1) (by rw [h];congr 1;omega)
theorem b2i (k a:Ob):∀ (l:List Ob) (s:Nat),i9 k s (l++[a])=if 0≤i9 k s l then i9 k s l else if a=k then ((s+l.length:Nat):Int) else -1
 | [],s=>by simp [i9]
 | x::l,s=>by
   simp only [List.cons_append]
   unfold i9
   by_cases e:x=k
   ·rw [if_pos e,if_pos e,if_pos (by omega)]
   ·rw [if_neg e,if_neg e,b2i k a l (s+1)]
    simp only [List.length_cons]
    split
    ·rfl
    ·split
     ·congr 1;omega
     ·rfl
def c6z (k:Ob):Prop:=k.kind≠0∧k.kind≠6∧k.key=k
theorem b4L {l:List Ob}:b5b l↔(∀ k ∈ l,c6z k)∧l.Pairwise (·≠·):=by
 constructor
 ·intro h
  refine ⟨fun k hk=>?_,List.pairwise_iff_getElem.2 fun i j hi hj hij e=>?_⟩
  ·obtain ⟨i,hi⟩:=List.getElem?_of_mem hk
   obtain ⟨a,b,c, -⟩:=h i k hi
   exact ⟨a,b,c⟩
  ·obtain ⟨-, -, -,d⟩:=h j l[j] (List.getElem?_eq_getElem hj)
   have q:=(a5e l[j] l j 0 (List.getElem?_eq_getElem hj)).1 (List.mem_take_iff_getElem.2 ⟨i,by omega,e⟩)
   omega
 ·rintro ⟨h1,h2⟩ i k hk
  obtain ⟨a,b,c⟩:=h1 k (List.mem_of_getElem? hk)
  refine ⟨a,b,c,?_⟩
  have no:¬ k ∈ l.take i:=by
   intro hm
   obtain ⟨j,hj,e⟩:=List.mem_take_iff_getElem.1 hm
   obtain ⟨hi,e2⟩:=List.getElem?_eq_some_iff.1 hk
   exact List.pairwise_iff_getElem.1 h2 j i (by omega) hi (by omega) (by rw [e,e2])
  rw [a5e k l i 0 hk] at no
  omega
theorem c1Y {k:Ob} {l:List Ob} (h:¬ k ∈ l):i9 k 0 l<0:=by
 have:=mt (a6d k l 0).1 h
 omega
theorem c5c {h:List Cl} {c:Cl} (hr:Y5 h c) (h3:c.kind=3):c.bytes=[]∧c.items.length=0∧c.at'=0∧0≤c.max∧c.max≤200∧c.keys.length=c.w7.length∧(c.keys.length:Int)≤c.max∧(∀ o ∈ c.keys,fits h o)∧(∀ o ∈ c.w7,fits h o)∧b5b c.keys:=by
 rcases hr with ⟨e, -⟩ | ⟨e, -⟩ | ⟨-,r⟩ | ⟨e, -⟩
 ·omega
 ·omega
 ·exact r
 ·omega
theorem b1X {k:Ob} {l:List Ob} (h:k ∈ l):∃ i:Nat,i9 k 0 l=(i:Int)∧i<l.length∧l[i]?=some k:=by
 obtain ⟨i,hi,hl⟩:=c5G ((a6d k l 0).2 h)
 exact ⟨i,hi,hl,b9J k l i 0 (by rw [hi];congr 1;omega)⟩
theorem c0D {h:List Cl} {c c':Cl} {k v:Ob} (hr:Y5 h c) (h3:c.kind=3) (hk:c6z k) (hkf:fits h k) (hvf:fits h v) (hp:a2B c k v=some c'):
 Y5 h c'∧c'.kind=3∧c'.size=c.size∧look c' k=some v∧(∀ l,l≠k→look c' l=look c l)∧(c'.keys.length=c.keys.length∨c'.keys.length=c.keys.length+1)∧k ∈ c'.keys:=by
 obtain ⟨a1,a2,a3,a4,a5,a6,a7,a8,a9,a10⟩:=c5c hr h3
 unfold a2B at hp
 split at hp
 ·rename_i hi
  cases hp
  obtain ⟨i,hi2,hil,hik⟩:=b1X ((a6d k c.keys 0).1 hi.1)
  rw [hi2] at hi ⊢
  refine ⟨.inr (.inr (.inl ⟨h3,a1,a2,a3,a4,a5,by dsimp only;rw [List.length_set];exact a6,a7,a8,fun o ho=>?_,a10⟩)),h3,rfl,?_,fun l hl=>?_,.inl rfl,List.mem_of_getElem? hik⟩
  ·rcases List.mem_or_eq_of_mem_set ho with ho | rfl
   ·exact a9 o ho
   ·exact hvf
  ·unfold look
   dsimp only
   rw [hi2,if_neg (by omega)]
   simp only [Int.toNat_natCast]
   rw [List.getElem?_set_self (by omega)]
  ·unfold look
   dsimp only
   by_cases hl0:i9 l 0 c.keys<0
   ·rw [if_pos hl0,if_pos hl0]
   ·rw [if_neg hl0,if_neg hl0]
    obtain ⟨j,hj,hjl,hjk⟩:=b1X ((a6d l c.keys 0).1 (by omega))
    rw [hj]
    simp only [Int.toNat_natCast]
    rw [List.getElem?_set_ne]
    intro e
    subst e
    rw [hik] at hjk
    cases hjk
    exact hl rfl
 ·rename_i hi
  split at hp
  ·cases hp
  ·rename_i hm
   cases hp
   have hno:¬ k ∈ c.keys:=by
    intro hx
    obtain ⟨i,hi2,hil, -⟩:=b1X hx
    exact hi (by rw [hi2];omega)
   have hneg:=c1Y hno
   obtain ⟨g1,g2⟩:=b4L.1 a10
   refine ⟨.inr (.inr (.inl ⟨h3,a1,a2,a3,a4,a5,by simp [a6],by dsimp only;rw [List.length_append];simp;omega,fun o ho=>?_,fun o ho=>?_,b4L.2 ⟨fun o ho=>?_,?_⟩⟩)),h3,rfl,?_,fun l hl=>?_,.inr (by simp),by simp⟩
   ·rcases List.mem_append.1 ho with ho | ho
    ·exact a8 o ho
    ·simp only [List.mem_singleton] at ho;subst ho;exact hkf
   ·rcases List.mem_append.1 ho with ho | ho
    ·exact a9 o ho
    ·simp only [List.mem_singleton] at ho;subst ho;exact hvf
   ·rcases List.mem_append.1 ho with ho | ho
    ·exact g1 o ho
    ·simp only [List.mem_singleton] at ho;subst ho;exact hk
   ·refine List.pairwise_append.2 ⟨g2,List.pairwise_singleton _ _,fun a ha b hb e=>?_⟩
    simp only [List.mem_singleton] at hb
    subst hb e
    exact hno ha
   ·have e:i9 k 0 (c.keys++[k])=(c.keys.length:Int):=by
     rw [b2i,if_neg (show ¬ 0≤i9 k 0 c.keys by omega),if_pos rfl,Nat.zero_add]
    unfold look
    dsimp only
    rw [e,if_neg (by omega)]
    simp only [Int.toNat_natCast]
    rw [List.getElem?_append_right (by omega),a6]
    simp
   ·unfold look
    dsimp only
    by_cases hl0:i9 l 0 c.keys<0
    ·have e:i9 l 0 (c.keys++[k])= -1:=by
      rw [b2i,if_neg (show ¬ 0≤i9 l 0 c.keys by omega),if_neg (fun e=>hl e.symm)]
     rw [e,if_pos (by decide),if_pos hl0]
    ·have e:i9 l 0 (c.keys++[k])=i9 l 0 c.keys:=by
      rw [b2i,if_pos (show 0≤i9 l 0 c.keys by omega)]
     rw [e,if_neg hl0,if_neg hl0]
     obtain ⟨j,hj,hjl,hjk⟩:=b1X ((a6d l c.keys 0).1 (by omega))
     rw [hj]
     simp only [Int.toNat_natCast]
     rw [List.getElem?_append_left (by omega)]
end Go.Ab.Td
namespace Go.Ab.Td
set_option maxRecDepth 100000
open Go Go.Ab
variable {P:Program}
set_option linter.unusedSimpArgs false
attribute [local irreducible] f0
end Go.Ab.Td
namespace Go.Ab.Td
set_option maxRecDepth 100000
set_option maxRecDepth 100000
open Go Go.Ab Go.ChangeShapes
theorem b8V {α:Type} {f:α→List PV} {ts:List Ty} {Q:α→Prop} (one:∀ qs,b7L qs ts→∃ o,qs=f o∧Q o):∀ (rows:List (List PV)),(∀ row ∈ rows,row.length=ts.length)→(∀ row ∈ rows,∀ (j:Nat) (q:PV) (t:Ty),row[j]?=some q→ts[j]?=some t→Has t q)→∃ l:List α,rows=l.map f∧∀ o ∈ l,Q o
 | [],_,_=>⟨[],rfl,by simp⟩
 | r::rows,h1,h2=>by
   obtain ⟨o,e,hq⟩:=one r ⟨h1 r (by simp),h2 r (by simp)⟩
   obtain ⟨l,e2,hl⟩:=b8V one rows (fun x hx=>h1 x (by simp [hx])) (fun x hx=>h2 x (by simp [hx]))
   exact ⟨o::l,by rw [e,e2];rfl,by simpa using ⟨hq,hl⟩⟩
end Go.Ab.Td
namespace Go.Ab.Td
set_option maxRecDepth 100000
set_option maxRecDepth 100000
open Go Go.Ab Go.ChangeShapes
theorem Wd.word (w:Wd):a4P w.row:=⟨_,_,_,_,_,rfl,w.hA,w.hB,w.hN⟩
theorem b4N {rows:List (List PV)} (hw:∀ row ∈ rows,row.length=a6f.length) (h:∀ row ∈ rows,∀ (j:Nat) (q:PV) (t:Ty),row[j]?=some q→a6f[j]?=some t→Has t q):∀ r ∈ rows,a4P r:=by
 intro r hr
 obtain ⟨w,rfl⟩:=c5B ⟨hw r hr,h r hr⟩
 exact w.word
theorem c0P {p:PV} (h:b5z (true,b9z) p):∃ cells ops e9,p= .agg [.sl 5 cells,.sl 5 ops,.sl 1 e9]∧(∀ r ∈ cells,a4P r)∧(∀ r ∈ ops,a4P r)∧∀ r ∈ e9,∃ D,r=[.int .u8 D]∧0≤D∧D<256:=by
 obtain ⟨qs,e,hl,h⟩:=h
 simp only [b6e] at e
 subst e
 match qs,hl with
 | [a,b,c],_=>
   have k0:=h 0 _ _ rfl rfl
   have k1:=h 1 _ _ rfl rfl
   have k2:=h 2 _ _ rfl rfl
   cases k0 with
   | sl w0 g0=>
   cases k1 with
   | sl w1 g1=>
   cases k2 with
   | sl w2 g2=>
     refine ⟨_,_,_,rfl,b4N w0 g0,b4N w1 g1,fun r hr=>?_⟩
     have hlr:=w2 r hr
     match r,hlr with
     | [q],_=>
       have k:=g2 _ hr 0 _ _ rfl rfl
       cases k with
       | int w=>exact ⟨_,rfl,b9k w⟩
def nC (c:Cl):Prop:=(∀ o ∈ c.items,o.n<9223372036854775808)∧(∀ o ∈ c.keys,o.n<9223372036854775808)∧∀ o ∈ c.w7,o.n<9223372036854775808
end Go.Ab.Td
namespace Go.Ab.Td
set_option maxRecDepth 100000
set_option maxRecDepth 100000
open Go Go.Ab
theorem nC.c8U {c:Cl} (h:nC c):∀ l ∈ a3H c,∀ o ∈ l,o.n<9223372036854775808:=by
 unfold a3H
 exact c7q.2 h
theorem c2q {l:List Ob} {m:Nat} (h:SlR (.sl 7 (l.map i6)) m):∀ o ∈ l,o.n<9223372036854775808:=by
 intro o ho
 rcases h with ⟨h1, -⟩ | ⟨rr,h1, -, -,hf⟩
 ·cases h1
 ·simp only [PV.sl.injEq,true_and] at h1
  subst h1
  obtain ⟨k,e,n,s,r,f,l,hn,he⟩:=hf (i6 o) (List.mem_map_of_mem ho)
  simp only [i6,List.cons.injEq,PV.int.injEq,true_and] at he
  rw [he.2.2.1]
  exact hn
theorem a7O.nC {c:Cl} (h:a7O c):nC c:=by
 obtain ⟨-, -,k,b,q1,q2,q3,mx,a,m1,m2,m3,he, -,h1,h2,h3⟩:=h
 simp only [j9,List.cons.injEq,PV.int.injEq,PV.str.injEq,true_and] at he
 obtain ⟨-, -,e1,e2,e3, -⟩:=he
 subst e1 e2 e3
 exact ⟨c2q h1,c2q h2,c2q h3⟩
theorem c2A {h:List Cl} {o:Ob} (hf:fits h o) (hk:o.kind=9):∃ c,h[o.ref.toNat]?=some c∧cellAt h o=c∧c.kind=3∧True:=by
 obtain ⟨h1,h2, -⟩:=b0k hf (by rw [hk];decide)
 rw [hk] at h2
 exact ⟨_,h1,rfl,h2,trivial⟩
end Go.Ab.Td
namespace Go.Ab.Td
set_option maxRecDepth 100000
set_option maxRecDepth 100000
open Go Go.Ab
variable {P:Program}
set_option linter.unusedSimpArgs false
attribute [local irreducible] f0
theorem b7D {h:List Cl} {c:Cl} (hr:Y5 h c):c.small:=by
 rcases hr with ⟨-,h1,h2,h3,h4, -⟩ | ⟨-,h1,h2, -,h4,h5, -⟩ | ⟨-,h1,h2, -,h4,h5,h6,h7, -⟩ | ⟨-,h1,h2,h3,h4, -⟩
 ·exact ⟨by omega,by omega,by omega,by omega⟩
 ·exact ⟨by omega,by omega,by omega,by rw [h1];simp⟩
 ·exact ⟨by omega,by omega,by omega,by rw [h1];simp⟩
 ·exact ⟨by omega,by omega,by omega,by omega⟩
theorem b1j {h:List Cl} (hv:W1 h) (hl:h.length≤1000000):small h:=⟨hl,fun c hc=>b7D (hv.1 c hc)⟩
theorem c5F {c c':Cl} {k v:Ob} (hc:nC c) (hk:k.n<9223372036854775808) (hv:v.n<9223372036854775808) (hp:a2B c k v=some c'):nC c':=by
 obtain ⟨n1,n2,n3⟩:=hc
 unfold a2B at hp
 split at hp
 ·cases hp
  refine ⟨n1,n2,fun o ho=>?_⟩
  rcases List.mem_or_eq_of_mem_set ho with ho | rfl
  ·exact n3 o ho
  ·exact hv
 ·split at hp
  ·cases hp
  ·cases hp
   refine ⟨n1,fun o ho=>?_,fun o ho=>?_⟩
   ·rcases List.mem_append.1 ho with ho | ho
    ·exact n2 o ho
    ·simp only [List.mem_singleton] at ho;subst ho;exact hk
   ·rcases List.mem_append.1 ho with ho | ho
    ·exact n3 o ho
    ·simp only [List.mem_singleton] at ho;subst ho;exact hv
theorem b8a {h:List Cl} {c:Cl} (hs:∀ d ∈ h,nC d) (hc:nC c) (j:Nat):∀ d ∈ h.set j c,nC d:=by
 intro d hd
 rcases List.mem_or_eq_of_mem_set hd with hd | rfl
 ·exact hs d hd
 ·exact hc
theorem kc0 (C:Laid P) {h:List Cl} (hv:W1 h) (hl:h.length≤1000000) (hn:∀ c ∈ h,nC c):j7 P G J8 [.sl 7 (List.map j9 h)] [] (pI 0):=by
 have k:=b4p C h (b1j hv hl) (fun c hc=>(hn c hc).c8U)
 rw [((c0m h).resolve_right (fun hx=>hx.1 hv)).2] at k
 exact k
end Go.Ab.Td
namespace Go.Ab.Td
set_option maxRecDepth 100000
set_option maxRecDepth 100000
open Go Go.Ab
variable {P:Program}
set_option linter.unusedSimpArgs false
def VH (h:List Cl):Prop:=W1 h∧h.length≤20000
theorem VH.small {h:List Cl} (t:VH h):small h:=b1j t.1 (by have:=t.2;omega)
theorem a7d {h:List Cl} {c:Cl} (hr:Y5 h c):(c.kind=1→c.items=[]∧c.bytes.length≤1000)∧(c.kind=2→c.bytes=[]∧c.items.length≤1000):=by
 rcases hr with ⟨k,h1,h2, -⟩ | ⟨k,h1,h2, -⟩ | ⟨k, -⟩ | ⟨k, -⟩
 ·exact ⟨fun _=>⟨List.length_eq_zero_iff.1 h2,h1⟩,fun e=>by omega⟩
 ·exact ⟨fun e=>by omega,fun _=>⟨h1,h2⟩⟩
 ·exact ⟨fun e=>by omega,fun e=>by omega⟩
 ·exact ⟨fun e=>by omega,fun e=>by omega⟩
theorem a3C {h:List Cl} (t:VH h) {kd cl A B N:Int} (hk:(kd=6∧cl=1)∨((kd=7∨kd=8)∧cl=2)∨(kd=9∧cl=3)∨(kd=11∧cl=4)) (hA:0≤A∧A<256) (hB:0≤B∧B<256):fits h (a1i h kd cl A B N):=by
 unfold a1i
 by_cases hp:k9 (h.map j9) cl A<0
 ·rw [if_pos hp];exact fits_int (by omega) (by omega) false
 ·rw [if_neg hp]
  obtain ⟨j,c,ej,hc,hcl,hj⟩:=b5o hp
  have hl:=t.2
  have hs:=a7d (t.1.1 c (List.mem_of_getElem? hc))
  rw [ej]
  have hc':h[((j:Int)).toNat]?=some c:=by simpa using hc
  by_cases h3:cl=3∨cl=4
  ·rw [if_pos h3]
   have hkd:kd=9∧cl=3∨kd=11∧cl=4:=by omega
   refine ⟨?_,fun _=>⟨c,hc',?_,fun hx=>?_⟩⟩
   ·rcases hkd with ⟨rfl,_⟩ | ⟨rfl,_⟩ <;>(unfold Ob.right Ob.blank;simp;omega)
   ·rcases hkd with ⟨rfl,rfl⟩ | ⟨rfl,rfl⟩ <;>exact hcl
   ·dsimp only at hx;omega
  ·rw [if_neg h3]
   have hkd:kd=6∧cl=1∨(kd=7∨kd=8)∧cl=2:=by omega
   have hlen:(c.length:Int)=(c.bytes.length:Int)+c.items.length∧c.length≤1000:=by
    unfold Cl.length
    rcases hkd with ⟨_,rfl⟩ | ⟨_,rfl⟩
    ·obtain ⟨e1,e2⟩:=hs.1 hcl
     rw [if_pos hcl,e1];simp;omega
    ·obtain ⟨e1,e2⟩:=hs.2 hcl
     rw [if_neg (by omega),e1];simp;omega
   have fin:∀ (e:Bool) (o l:Int),0≤o→0≤l→o+l≤c.length→fits h ⟨kd,e,0,[],(j:Int),o,l⟩:=by
    intro e o l h1 h2 h3
    refine ⟨?_,fun _=>⟨c,hc',?_,fun _=>h3⟩⟩
    ·rcases hkd with ⟨rfl,_⟩ | ⟨rfl | rfl,_⟩ <;>(unfold Ob.right Ob.blank;simp;omega)
    ·rcases hkd with ⟨rfl,rfl⟩ | ⟨rfl | rfl,rfl⟩ <;>exact hcl
   simp only [hc',Option.getD_some]
   rw [← hlen.1]
   have hn0:0≤c.length:=by omega
   split
   ·have t1:=Int.tmod_nonneg (c.length+1) hB.1
    have t2:=Int.tmod_lt_of_pos B (show 0<c.length+1 by omega)
    have t3:=Int.tmod_nonneg (c.length - B.tmod (c.length+1)+1) (Int.tdiv_nonneg hB.1 (show (0:Int)≤3 by decide))
    have t4:=Int.tmod_lt_of_pos (B.tdiv 3) (show 0<c.length - B.tmod (c.length+1)+1 by omega)
    exact fin _ _ _ t1 t3 (by omega)
   ·exact fin _ _ _ (by decide) hn0 (by omega)
theorem b4E {h:List Cl} (t:VH h) (K A B N:Int) (hA:0≤A∧A<256) (hB:0≤B∧B<256) (hN: -2147483648≤N∧N≤2147483647):fits h (b0c h K A B N):=by
 have r2:0≤A.tmod 2∧A.tmod 2<2:=⟨Int.tmod_nonneg _ hA.1,Int.tmod_lt_of_pos _ (by decide)⟩
 have r10: -10<N.tmod 10∧N.tmod 10<10:=⟨Int.lt_tmod_of_pos _ (by decide),Int.tmod_lt_of_pos _ (by decide)⟩
 have r20: -1048576<N.tmod 1048576∧N.tmod 1048576<1048576:=⟨Int.lt_tmod_of_pos _ (by decide),Int.tmod_lt_of_pos _ (by decide)⟩
 have wl:=b6R A
 unfold b0c
 refine o9 (fun _=>v8 (by unfold Ob.right Ob.blank ob0;simp) rfl) fun _=>?_
 refine o9 (fun _=>v8 (by unfold Ob.right Ob.blank;simp) rfl) fun _=>?_
 refine o9 (fun _=>v8 (by unfold Ob.right Ob.blank;simp;omega) rfl) fun _=>?_
 refine o9 (fun _=>fits_int (by omega) (by omega) false) fun _=>?_
 refine o9 (fun _=>fits_int (by omega) (by omega) false) fun _=>?_
 refine o9 (fun _=>v8 (by unfold Ob.right Ob.blank;simp;omega) rfl) fun _=>?_
 refine o9 (fun _=>v8 (by unfold Ob.right Ob.blank;simp;omega) rfl) fun _=>?_
 refine o9 (fun _=>v8 (by unfold Ob.right Ob.blank;simp;omega) rfl) fun _=>?_
 refine o9 (fun _=>a3C t (by omega) hA hB) fun _=>?_
 refine o9 (fun _=>a3C t (by omega) hA hB) fun _=>?_
 refine o9 (fun _=>a3C t (by omega) hA hB) fun _=>?_
 refine o9 (fun _=>a3C t (by omega) hA hB) fun _=>?_
 refine o9 (fun _=>v8 (by unfold Ob.right Ob.blank;simp) rfl) fun _=>?_
 exact a3C t (by omega) hA hB
theorem c2y (C:Laid P) {h:List Cl} (t:VH h) {H:List (List PV)} (e:LeR H (h.map j9)) (K A B N:Int) (S:List UInt8) (hA:0≤A∧A<256) (hB:0≤B∧B<256) (hN: -2147483648≤N∧N≤2147483647):∃ r,(FV h r∧a3G r)∧j7 P G e6 [C6 K A B N S,.sl 7 H] [] (.agg r):=by
 have f:FV h (i6 (b0c h K A B N)):=⟨_,rfl,b4E t K A B N hA hB hN,b9H h K A B N hA hN⟩
 exact ⟨_,⟨f,b1P f⟩,a9j (S6 C h t.small K A B N S hA hB hN) (.cons (.refl _) (.cons (b9j e) .nil))⟩
theorem c0n (C:Laid P) {h:List Cl} (t:VH h) (K A B N:Int) (S:List UInt8) (hA:0≤A∧A<256) (hB:0≤B∧B<256) (hN: -2147483648≤N∧N≤2147483647):∃ c:Cl,(a7O c∧Y5 h c∧0≤c.size∧c.size≤41)∧j7 P G n7 [C6 K A B N S,.sl 7 (List.map j9 h)] [] (aC c):=by
 obtain ⟨r,h1,h2⟩:=b4U (FV h) (j7 P G) (h.map j9) K A B N S hA hB hN (fun K' A' B' N' S' a b n=>c2y C t (LeR.refl _) K' A' B' N' S' a b n) (b7E C) (b7k C)
 obtain ⟨c,e,hc⟩:=b9h h1
 exact ⟨c,hc,b9B (a6R C (a4b C) rfl h2) (o6 e)⟩
end Go.Ab.Td

/- A part of the proof: the texts TdVf, TdVg, TdAr2, TdAr4, TdVl, TdVq, TdVs, TdFj, TdFk. Under: nothing. -/
import Derived.Test.YtomfaadmmchdcaaDoorG40
import Derived.Test.YtomfaadmmchdcaaDoorG28
import Derived.Test.YtomfaadmmchdcaaDoorG37
import Derived.Test.YtomfaadmmchdcaaDoorG27
import Derived.Test.YtomfaadmmchdcaaDoorG39
import Derived.Test.YtomfaadmmchdcaaDoorG25
set_option linter.unusedVariables false
namespace Go.Ab.Td
set_option maxRecDepth 100000
set_option maxRecDepth 100000
open Go Go.Ab
set_option linter.unusedSimpArgs false
theorem b8v (k:Ob):∀ (l:List Ob) (i s:Nat),i6 k s l=((s+i:Nat):Int)→l[i]?=some k
 | [],i,s,h=>by simp [i6] at h;omega
 | x::l,i,s,h=>by
   unfold i6 at h
   by_cases e:x=k
   ·rw [if_pos e] at h
    obtain rfl:i=0:=by omega
    simp [e]
   ·rw [if_neg e] at h
    cases i with
    | zero=>
      rcases b7q k l (s+1) with q | ⟨q, -⟩ <;>omega
    | succ i=>
      simp only [List.getElem?_cons_succ]
      exact b8v k l i (s+1) (by rw [h];congr 1;omega)
theorem b1w (k a:Ob):∀ (l:List Ob) (s:Nat),i6 k s (l++[a])=if 0≤i6 k s l then i6 k s l else if a=k then ((s+l.length:Nat):Int) else -1
 | [],s=>by simp [i6]
 | x::l,s=>by
   simp only [List.cons_append]
   unfold i6
   by_cases e:x=k
   ·rw [if_pos e,if_pos e,if_pos (by omega)]
   ·rw [if_neg e,if_neg e,b1w k a l (s+1)]
    simp only [List.length_cons]
    split
    ·rfl
    ·split
     ·congr 1;omega
     ·rfl
def c5u (k:Ob):Prop:=k.kind≠0∧k.kind≠6∧k.key=k
theorem a6T {l:List Ob}:b8A l↔(∀ k ∈ l,c5u k)∧l.Pairwise (·≠·):=by
 constructor
 ·intro h
  refine ⟨fun k hk=>?_,List.pairwise_iff_getElem.2 fun i j hi hj hij e=>?_⟩
  ·obtain ⟨i,hi⟩:=List.getElem?_of_mem hk
   obtain ⟨a,b,c, -⟩:=h i k hi
   exact ⟨a,b,c⟩
  ·obtain ⟨-, -, -,d⟩:=h j l[j] (List.getElem?_eq_getElem hj)
   have q:=(a8V l[j] l j 0 (List.getElem?_eq_getElem hj)).1 (List.mem_take_iff_getElem.2 ⟨i,by omega,e⟩)
   omega
 ·rintro ⟨h1,h2⟩ i k hk
  obtain ⟨a,b,c⟩:=h1 k (List.mem_of_getElem? hk)
  refine ⟨a,b,c,?_⟩
  have no:¬ k ∈ l.take i:=by
   intro hm
   obtain ⟨j,hj,e⟩:=List.mem_take_iff_getElem.1 hm
   obtain ⟨hi,e2⟩:=List.getElem?_eq_some_iff.1 hk
   exact List.pairwise_iff_getElem.1 h2 j i (by omega) hi (by omega) (by rw [e,e2])
  rw [a8V k l i 0 hk] at no
  omega
theorem b2g {k:Ob} {l:List Ob} (h:¬ k ∈ l):i6 k 0 l<0:=by
 have:=mt (a6S k l 0).1 h
 omega
theorem c1e {h:List Cl} {o:Ob} (hn:o.n<9223372036854775808) (hf:fits h o) (hk:(i3 h o).2=0):c5u (i3 h o).1∧fits h (i3 h o).1∧(i3 h o).1.n<9223372036854775808:=by
 obtain ⟨h1,h2,h3,h4⟩:=c3a hn hf hk
 generalize (i3 h o).1=k at h1 h2 h3 h4
 unfold i3 at h2
 rw [if_neg (fun x=>x h1)] at h2
 by_cases h6:k.kind=6
 ·rw [if_pos h6] at h2
  split at h2
  ·simp at h2
  ·simp only [Prod.mk.injEq,and_true] at h2
   rw [← h2] at h6
   simp [W4] at h6
 ·rw [if_neg h6,if_neg h3] at h2
  simp only [Prod.mk.injEq,and_true] at h2
  exact ⟨⟨h3,h6,h2⟩,h1,h4⟩
theorem b8o {h:List Cl} {c:Cl} (hr:W7 h c) (h3:c.kind=3):c.bytes=[]∧c.items.length=0∧c.at'=0∧0≤c.max∧c.max≤200∧c.keys.length=c.p8.length∧(c.keys.length:Int)≤c.max∧(∀ o ∈ c.keys,fits h o)∧(∀ o ∈ c.p8,fits h o)∧b8A c.keys:=by
 rcases hr with ⟨e, -⟩ | ⟨e, -⟩ | ⟨-,r⟩ | ⟨e, -⟩
 ·omega
 ·omega
 ·exact r
 ·omega
theorem a8U {k:Ob} {l:List Ob} (h:k ∈ l):∃ i:Nat,i6 k 0 l=(i:Int)∧i<l.length∧l[i]?=some k:=by
 obtain ⟨i,hi,hl⟩:=c5q ((a6S k l 0).2 h)
 exact ⟨i,hi,hl,b8v k l i 0 (by rw [hi];congr 1;omega)⟩
theorem b9P {h:List Cl} {c c':Cl} {k v:Ob} (hr:W7 h c) (h3:c.kind=3) (hk:c5u k) (hkf:fits h k) (hvf:fits h v) (hp:X7 c k v=some c'):
 W7 h c'∧c'.kind=3∧c'.size=c.size∧look c' k=some v∧(∀ l,l≠k→look c' l=look c l)∧(c'.keys.length=c.keys.length∨c'.keys.length=c.keys.length+1)∧k ∈ c'.keys:=by
 obtain ⟨a1,a2,a3,a4,a5,a6,a7,a8,a9,a10⟩:=b8o hr h3
 unfold X7 at hp
 split at hp
 ·rename_i hi
  cases hp
  obtain ⟨i,hi2,hil,hik⟩:=a8U ((a6S k c.keys 0).1 hi.1)
  rw [hi2] at hi ⊢
  refine ⟨.inr (.inr (.inl ⟨h3,a1,a2,a3,a4,a5,by dsimp only;rw [List.length_set];exact a6,a7,a8,fun o ho=>?_,a10⟩)),h3,rfl,?_,fun l hl=>?_,.inl rfl,List.mem_of_getElem? hik⟩
  ·rcases List.mem_or_eq_of_mem_set ho with ho | rfl
   ·exact a9 o ho
   ·exact hvf
  ·unfold look
   dsimp only
   rw [hi2,if_neg (by omega)]
   simp only [Int.toNat_natCast]
   rw [List.getElem?_set_self (by omega)]
  ·unfold look
   dsimp only
   by_cases hl0:i6 l 0 c.keys<0
   ·rw [if_pos hl0,if_pos hl0]
   ·rw [if_neg hl0,if_neg hl0]
    obtain ⟨j,hj,hjl,hjk⟩:=a8U ((a6S l c.keys 0).1 (by omega))
    rw [hj]
    simp only [Int.toNat_natCast]
    rw [List.getElem?_set_ne]
    intro e
    subst e
    rw [hik] at hjk
    cases hjk
    exact hl rfl
 ·rename_i hi
  split at hp
  ·cases hp
  ·rename_i hm
   cases hp
   have hno:¬ k ∈ c.keys:=by
    intro hx
    obtain ⟨i,hi2,hil, -⟩:=a8U hx
    exact hi (by rw [hi2];omega)
   have hneg:=b2g hno
   obtain ⟨g1,g2⟩:=a6T.1 a10
   refine ⟨.inr (.inr (.inl ⟨h3,a1,a2,a3,a4,a5,by simp [a6],by dsimp only;rw [List.length_append];simp;omega,fun o ho=>?_,fun o ho=>?_,a6T.2 ⟨fun o ho=>?_,?_⟩⟩)),h3,rfl,?_,fun l hl=>?_,.inr (by simp),by simp⟩
   ·rcases List.mem_append.1 ho with ho | ho
    ·exact a8 o ho
    ·simp only [List.mem_singleton] at ho;subst ho;exact hkf
   ·rcases List.mem_append.1 ho with ho | ho
    ·exact a9 o ho
    ·simp only [List.mem_singleton] at ho;subst ho;exact hvf
   ·rcases List.mem_append.1 ho with ho | ho
    ·exact g1 o ho
    ·simp only [List.mem_singleton] at ho;subst ho;exact hk
   ·refine List.pairwise_append.2 ⟨g2,List.pairwise_singleton _ _,fun a ha b hb e=>?_⟩
    simp only [List.mem_singleton] at hb
    subst hb e
    exact hno ha
   ·have e:i6 k 0 (c.keys++[k])=(c.keys.length:Int):=by
     rw [b1w,if_neg (show ¬ 0≤i6 k 0 c.keys by omega),if_pos rfl,Nat.zero_add]
    unfold look
    dsimp only
    rw [e,if_neg (by omega)]
    simp only [Int.toNat_natCast]
    rw [List.getElem?_append_right (by omega),a6]
    simp
   ·unfold look
    dsimp only
    by_cases hl0:i6 l 0 c.keys<0
    ·have e:i6 l 0 (c.keys++[k])= -1:=by
      rw [b1w,if_neg (show ¬ 0≤i6 l 0 c.keys by omega),if_neg (fun e=>hl e.symm)]
     rw [e,if_pos (by decide),if_pos hl0]
    ·have e:i6 l 0 (c.keys++[k])=i6 l 0 c.keys:=by
      rw [b1w,if_pos (show 0≤i6 l 0 c.keys by omega)]
     rw [e,if_neg hl0,if_neg hl0]
     obtain ⟨j,hj,hjl,hjk⟩:=a8U ((a6S l c.keys 0).1 (by omega))
     rw [hj]
     simp only [Int.toNat_natCast]
     rw [List.getElem?_append_left (by omega)]
theorem b9R {h:List Cl} {c:Cl} {k:Ob} (hr:W7 h c) (h3:c.kind=3) (hm:k ∈ c.keys):∃ i:Nat,i6 k 0 c.keys=(i:Int)∧i<c.keys.length∧i<c.p8.length∧W7 h (a1g c i)∧look (a1g c i) k=none:=by
 obtain ⟨a1,a2,a3,a4,a5,a6,a7,a8,a9,a10⟩:=b8o hr h3
 obtain ⟨g1,g2⟩:=a6T.1 a10
 obtain ⟨i,hi,hil,hik⟩:=a8U hm
 have l1:=List.length_eraseIdx_of_lt hil
 have l2:=List.length_eraseIdx_of_lt (show i<c.p8.length by omega)
 refine ⟨i,hi,hil,by omega,.inr (.inr (.inl ⟨h3,a1,a2,a3,a4,a5,?_,?_,fun o ho=>a8 o (List.mem_of_mem_eraseIdx ho),fun o ho=>a9 o (List.mem_of_mem_eraseIdx ho),a6T.2 ⟨fun o ho=>g1 o (List.mem_of_mem_eraseIdx ho),g2.sublist (List.eraseIdx_sublist _ _)⟩⟩)),?_⟩
 ·unfold a1g;dsimp only;omega
 ·unfold a1g;dsimp only;omega
 ·have no:¬ k ∈ c.keys.eraseIdx i:=by
   intro hx
   obtain ⟨j,hj⟩:=List.getElem?_of_mem hx
   rw [List.getElem?_eraseIdx] at hj
   obtain ⟨hi2,e⟩:=List.getElem?_eq_some_iff.1 hik
   split at hj
   ·obtain ⟨hj2,e2⟩:=List.getElem?_eq_some_iff.1 hj
    exact List.pairwise_iff_getElem.1 g2 j i hj2 hi2 (by omega) (by rw [e,e2])
   ·obtain ⟨hj2,e2⟩:=List.getElem?_eq_some_iff.1 hj
    exact List.pairwise_iff_getElem.1 g2 i (j+1) hi2 hj2 (by omega) (by rw [e,e2])
  unfold look a1g
  dsimp only
  rw [if_pos (b2g no)]
end Go.Ab.Td
namespace Go.Ab.Td
set_option maxRecDepth 100000
open Go Go.Ab
variable {P:Program}
set_option linter.unusedSimpArgs false
attribute [local irreducible] g8
end Go.Ab.Td
namespace Go.Ab.Td
set_option maxRecDepth 100000
set_option maxRecDepth 100000
open Go Go.Ab Go.ChangeShapes
theorem b8u {α:Type} {f:α→List PV} {ts:List Ty} {Q:α→Prop} (one:∀ qs,b9c qs ts→∃ o,qs=f o∧Q o):∀ (rows:List (List PV)),(∀ row ∈ rows,row.length=ts.length)→(∀ row ∈ rows,∀ (j:Nat) (q:PV) (t:Ty),row[j]?=some q→ts[j]?=some t→Has t q)→∃ l:List α,rows=l.map f∧∀ o ∈ l,Q o
 | [],_,_=>⟨[],rfl,by simp⟩
 | r::rows,h1,h2=>by
   obtain ⟨o,e,hq⟩:=one r ⟨h1 r (by simp),h2 r (by simp)⟩
   obtain ⟨l,e2,hl⟩:=b8u one rows (fun x hx=>h1 x (by simp [hx])) (fun x hx=>h2 x (by simp [hx]))
   exact ⟨o::l,by rw [e,e2];rfl,by simpa using ⟨hq,hl⟩⟩
theorem c5m {p:PV} (h:a9I (false,[.str]) p):∃ s,p= .str s∧s.length≤maxLen:=by
 obtain ⟨qs,e,hl,h⟩:=h
 simp only [a8H] at e
 subst e
 have k:=h 0 _ _ rfl rfl
 cases k with
 | str w=>exact ⟨_,rfl,w⟩
end Go.Ab.Td
namespace Go.Ab.Td
set_option maxRecDepth 100000
set_option maxRecDepth 100000
open Go Go.Ab Go.ChangeShapes
theorem Wd.word (w:Wd):a4A w.row:=⟨_,_,_,_,_,rfl,w.hA,w.hB,w.hN⟩
theorem b3X {rows:List (List PV)} (hw:∀ row ∈ rows,row.length=a8r.length) (h:∀ row ∈ rows,∀ (j:Nat) (q:PV) (t:Ty),row[j]?=some q→a8r[j]?=some t→Has t q):∀ r ∈ rows,a4A r:=by
 intro r hr
 obtain ⟨w,rfl⟩:=c4F ⟨hw r hr,h r hr⟩
 exact w.word
theorem b9t {p:PV} (h:a9I (true,b8p) p):∃ cells ops j8,p= .agg [.sl 5 cells,.sl 5 ops,.sl 1 j8]∧(∀ r ∈ cells,a4A r)∧(∀ r ∈ ops,a4A r)∧∀ r ∈ j8,∃ D,r=[.int .u8 D]∧0≤D∧D<256:=by
 obtain ⟨qs,e,hl,h⟩:=h
 simp only [a8H] at e
 subst e
 match qs,hl with
 | [a,b,c],_=>
   have k0:=h 0 _ _ rfl rfl
   have k1:=h 1 _ _ rfl rfl
   have k2:=h 2 _ _ rfl rfl
   cases k0 with
   | sl w0 g0=>
   cases k1 with
   | sl w1 g1=>
   cases k2 with
   | sl w2 g2=>
     refine ⟨_,_,_,rfl,b3X w0 g0,b3X w1 g1,fun r hr=>?_⟩
     have hlr:=w2 r hr
     match r,hlr with
     | [q],_=>
       have k:=g2 _ hr 0 _ _ rfl rfl
       cases k with
       | int w=>exact ⟨_,rfl,b8W w⟩
def nC (c:Cl):Prop:=(∀ o ∈ c.items,o.n<9223372036854775808)∧(∀ o ∈ c.keys,o.n<9223372036854775808)∧∀ o ∈ c.p8,o.n<9223372036854775808
end Go.Ab.Td
namespace Go.Ab.Td
set_option maxRecDepth 100000
set_option maxRecDepth 100000
open Go Go.Ab
theorem nC.c9J {c:Cl} (h:nC c):∀ l ∈ c1u c,∀ o ∈ l,o.n<9223372036854775808:=by
 unfold c1u
 exact c8T.2 h
theorem c1O {l:List Ob} {m:Nat} (h:SlR (.sl 7 (l.map i4)) m):∀ o ∈ l,o.n<9223372036854775808:=by
 intro o ho
 rcases h with ⟨h1, -⟩ | ⟨rr,h1, -, -,hf⟩
 ·cases h1
 ·simp only [PV.sl.injEq,true_and] at h1
  subst h1
  obtain ⟨k,e,n,s,r,f,l,hn,he⟩:=hf (i4 o) (List.mem_map_of_mem ho)
  simp only [i4,List.cons.injEq,PV.int.injEq,true_and] at he
  rw [he.2.2.1]
  exact hn
theorem a7T.nC {c:Cl} (h:a7T c):nC c:=by
 obtain ⟨-, -,k,b,q1,q2,q3,mx,a,m1,m2,m3,he, -,h1,h2,h3⟩:=h
 simp only [j6,List.cons.injEq,PV.int.injEq,PV.str.injEq,true_and] at he
 obtain ⟨-, -,e1,e2,e3, -⟩:=he
 subst e1 e2 e3
 exact ⟨c1O h1,c1O h2,c1O h3⟩
end Go.Ab.Td
namespace Go.Ab.Td
set_option maxRecDepth 100000
set_option maxRecDepth 100000
open Go Go.Ab
variable {P:Program}
set_option linter.unusedSimpArgs false
attribute [local irreducible] g8
theorem b5T {h:List Cl} {c:Cl} (hr:W7 h c):c.small:=by
 rcases hr with ⟨-,h1,h2,h3,h4, -⟩ | ⟨-,h1,h2, -,h4,h5, -⟩ | ⟨-,h1,h2, -,h4,h5,h6,h7, -⟩ | ⟨-,h1,h2,h3,h4, -⟩
 ·exact ⟨by omega,by omega,by omega,by omega⟩
 ·exact ⟨by omega,by omega,by omega,by rw [h1];simp⟩
 ·exact ⟨by omega,by omega,by omega,by rw [h1];simp⟩
 ·exact ⟨by omega,by omega,by omega,by omega⟩
theorem b0Q {h:List Cl} (hv:a8q h) (hl:h.length≤1000000):small h:=⟨hl,fun c hc=>b5T (hv.1 c hc)⟩
theorem c5z {c c':Cl} {k v:Ob} (hc:nC c) (hk:k.n<9223372036854775808) (hv:v.n<9223372036854775808) (hp:X7 c k v=some c'):nC c':=by
 obtain ⟨n1,n2,n3⟩:=hc
 unfold X7 at hp
 split at hp
 ·cases hp
  refine ⟨n1,n2,fun o ho=>?_⟩
  rcases List.mem_or_eq_of_mem_set ho with ho | rfl
  ·exact n3 o ho
  ·exact hv
 ·split at hp
  ·cases hp
  ·cases hp
   refine ⟨n1,fun o ho=>?_,fun o ho=>?_⟩
   ·rcases List.mem_append.1 ho with ho | ho
    ·exact n2 o ho
    ·simp only [List.mem_singleton] at ho;subst ho;exact hk
   ·rcases List.mem_append.1 ho with ho | ho
    ·exact n3 o ho
    ·simp only [List.mem_singleton] at ho;subst ho;exact hv
theorem c5A {c:Cl} (hc:nC c) (i:Nat):nC (a1g c i):=
 ⟨hc.1,fun o ho=>hc.2.1 o (List.mem_of_mem_eraseIdx ho),fun o ho=>hc.2.2 o (List.mem_of_mem_eraseIdx ho)⟩
theorem c1p {h:List Cl} {c:Cl} (hs:∀ d ∈ h,nC d) (hc:nC c) (j:Nat):∀ d ∈ h.set j c,nC d:=by
 intro d hd
 rcases List.mem_or_eq_of_mem_set hd with hd | rfl
 ·exact hs d hd
 ·exact hc
end Go.Ab.Td
namespace Go.Ab.Td
set_option maxRecDepth 100000
set_option maxRecDepth 100000
open Go Go.Ab
variable {P:Program}
attribute [local irreducible] g8
theorem b7x (C:Laid P) (cells ops j8:List (List PV)) (hc:∀ r ∈ cells,a4A r):∃ H,(a4y H∧∃ h,LeR H (h.map j6)∧H.length=h.length∧a2r h)∧l8 P G G4 [.agg [.sl 5 cells,.sl 5 ops,.sl 1 j8]] [] (.sl 7 H):=by
 obtain ⟨H,hI,h2⟩:=b9u (fun H=>a4y H∧∃ h,LeR H (h.map j6)∧H.length=h.length∧a2r h) ⟨⟨[],rfl,by simp,b1X⟩,a1v,c0Z,rfl,c2V⟩ (l8 P G) cells ops j8 hc (First.ok C) (fun K A B N S H hA hB hN _ hlt ⟨⟨more,em,hm,hall⟩,h,e,hl,t⟩=>by
  obtain ⟨r,h1,h2⟩:=b9j (FV h) (l8 P G) H K A B N S hA hB hN (fun K' A' B' N' S' a b n=>b6m C t.1 e K' A' B' N' S' a b n) (c1g C) (c1h C)
  obtain ⟨c,ec,c1,c2,c3,c4⟩:=c2U h1
  have ml:H.length=10+more.length:=by rw [em,List.length_append];rfl
  refine ⟨r,⟨b8j h1,⟨more++[r],by rw [em,List.append_assoc],by simp;omega,?_⟩,h++[c],by rw [List.map_append];exact e.append (.cons ec .nil),by simp [hl],t.app (by omega) c1 c2 c3 c4⟩,b0b C (a9e C) rfl h2⟩
  intro x hx
  rcases List.mem_append.1 hx with hx | hx
  ·exact hall x hx
  ·simp only [List.mem_singleton] at hx;subst hx;exact b8j h1)
 exact ⟨H,hI,b0b C (a8a C) rfl h2⟩
end Go.Ab.Td
namespace Go.Ab.Td
set_option maxRecDepth 100000
open Go Go.Ab
variable {P:Program}
set_option linter.unusedSimpArgs false
attribute [local irreducible] g8
end Go.Ab.Td
namespace Go.Ab.Td
set_option maxRecDepth 100000
open Go Go.Ab
variable {P:Program}
set_option linter.unusedSimpArgs false
attribute [local irreducible] g8
end Go.Ab.Td

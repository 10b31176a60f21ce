/- A part of the proof: the texts TdVf, TdVg, TdAr2, TdAr4, TdVl, TdVq. Under: nothing. -/
import Derived.Test.YtngmifmcohmfmaaDoorG26
import Derived.Test.YtngmifmcohmfmaaDoorG28
import Derived.Test.YtngmifmcohmfmaaDoorG23
import Derived.Test.YtngmifmcohmfmaaDoorG27
import Derived.Test.YtngmifmcohmfmaaDoorG18
set_option linter.unusedVariables false
namespace Go.Ab.Td
set_option maxRecDepth 100000
set_option maxRecDepth 100000
open Go Go.Ab
set_option linter.unusedSimpArgs false
theorem c0w (k:Ob):∀ (l:List Ob) (i s:Nat),j1 k s l=((s+i:Nat):Int)→l[i]?=some k
 | [],i,s,h=>by simp [j1] at h;omega
 | x::l,i,s,h=>by
   unfold j1 at h
   by_cases e:x=k
   ·rw [if_pos e] at h
    obtain rfl:i=0:=by omega
    simp [e]
   ·rw [if_neg e] at h
    cases i with
    | zero=>
      rcases b8O k l (s+1) with q | ⟨q, -⟩ <;>omega
    | succ i=>
      simp only [List.getElem?_cons_succ]
      exact c0w k l i (s+1) (by rw [h];congr 1;omega)
theorem b2A (k a:Ob):∀ (l:List Ob) (s:Nat),j1 k s (l++[a])=if 0≤j1 k s l then j1 k s l else if a=k then ((s+l.length:Nat):Int) else -1
 | [],s=>by simp [j1]
 | x::l,s=>by
   simp only [List.cons_append]
   unfold j1
   by_cases e:x=k
   ·rw [if_pos e,if_pos e,if_pos (by omega)]
   ·rw [if_neg e,if_neg e,b2A k a l (s+1)]
    simp only [List.length_cons]
    split
    ·rfl
    ·split
     ·congr 1;omega
     ·rfl
def c7c (k:Ob):Prop:=k.kind≠0∧k.kind≠6∧k.key=k
theorem b5u {l:List Ob}:b5t l↔(∀ k ∈ l,c7c k)∧l.Pairwise (·≠·):=by
 constructor
 ·intro h
  refine ⟨fun k hk=>?_,List.pairwise_iff_getElem.2 fun i j hi hj hij e=>?_⟩
  ·obtain ⟨i,hi⟩:=List.getElem?_of_mem hk
   obtain ⟨a,b,c, -⟩:=h i k hi
   exact ⟨a,b,c⟩
  ·obtain ⟨-, -, -,d⟩:=h j l[j] (List.getElem?_eq_getElem hj)
   have q:=(a5t l[j] l j 0 (List.getElem?_eq_getElem hj)).1 (List.mem_take_iff_getElem.2 ⟨i,by omega,e⟩)
   omega
 ·rintro ⟨h1,h2⟩ i k hk
  obtain ⟨a,b,c⟩:=h1 k (List.mem_of_getElem? hk)
  refine ⟨a,b,c,?_⟩
  have no:¬ k ∈ l.take i:=by
   intro hm
   obtain ⟨j,hj,e⟩:=List.mem_take_iff_getElem.1 hm
   obtain ⟨hi,e2⟩:=List.getElem?_eq_some_iff.1 hk
   exact List.pairwise_iff_getElem.1 h2 j i (by omega) hi (by omega) (by rw [e,e2])
  rw [a5t k l i 0 hk] at no
  omega
theorem c3j {k:Ob} {l:List Ob} (h:¬ k ∈ l):j1 k 0 l<0:=by
 have:=mt (a6i k l 0).1 h
 omega
theorem c4Y {h:List Cl} {c:Cl} (hr:Y7 h c) (h3:c.kind=3):c.bytes=[]∧c.items.length=0∧c.at'=0∧0≤c.max∧c.max≤200∧c.keys.length=c.x7.length∧(c.keys.length:Int)≤c.max∧(∀ o ∈ c.keys,fits h o)∧(∀ o ∈ c.x7,fits h o)∧b5t c.keys:=by
 rcases hr with ⟨e, -⟩ | ⟨e, -⟩ | ⟨-,r⟩ | ⟨e, -⟩
 ·omega
 ·omega
 ·exact r
 ·omega
theorem b2B {k:Ob} {l:List Ob} (h:k ∈ l):∃ i:Nat,j1 k 0 l=(i:Int)∧i<l.length∧l[i]?=some k:=by
 obtain ⟨i,hi,hl⟩:=c6X ((a6i k l 0).2 h)
 exact ⟨i,hi,hl,c0w k l i 0 (by rw [hi];congr 1;omega)⟩
theorem c1P {h:List Cl} {c c':Cl} {k v:Ob} (hr:Y7 h c) (h3:c.kind=3) (hk:c7c k) (hkf:fits h k) (hvf:fits h v) (hp:a2L c k v=some c'):
 Y7 h c'∧c'.kind=3∧c'.size=c.size∧look c' k=some v∧(∀ l,l≠k→look c' l=look c l)∧(c'.keys.length=c.keys.length∨c'.keys.length=c.keys.length+1)∧k ∈ c'.keys:=by
 obtain ⟨a1,a2,a3,a4,a5,a6,a7,a8,a9,a10⟩:=c4Y hr h3
 unfold a2L at hp
 split at hp
 ·rename_i hi
  cases hp
  obtain ⟨i,hi2,hil,hik⟩:=b2B ((a6i k c.keys 0).1 hi.1)
  rw [hi2] at hi ⊢
  refine ⟨.inr (.inr (.inl ⟨h3,a1,a2,a3,a4,a5,by dsimp only;rw [List.length_set];exact a6,a7,a8,fun o ho=>?_,a10⟩)),h3,rfl,?_,fun l hl=>?_,.inl rfl,List.mem_of_getElem? hik⟩
  ·rcases List.mem_or_eq_of_mem_set ho with ho | rfl
   ·exact a9 o ho
   ·exact hvf
  ·unfold look
   dsimp only
   rw [hi2,if_neg (by omega)]
   simp only [Int.toNat_natCast]
   rw [List.getElem?_set_self (by omega)]
  ·unfold look
   dsimp only
   by_cases hl0:j1 l 0 c.keys<0
   ·rw [if_pos hl0,if_pos hl0]
   ·rw [if_neg hl0,if_neg hl0]
    obtain ⟨j,hj,hjl,hjk⟩:=b2B ((a6i l c.keys 0).1 (by omega))
    rw [hj]
    simp only [Int.toNat_natCast]
    rw [List.getElem?_set_ne]
    intro e
    subst e
    rw [hik] at hjk
    cases hjk
    exact hl rfl
 ·rename_i hi
  split at hp
  ·cases hp
  ·rename_i hm
   cases hp
   have hno:¬ k ∈ c.keys:=by
    intro hx
    obtain ⟨i,hi2,hil, -⟩:=b2B hx
    exact hi (by rw [hi2];omega)
   have hneg:=c3j hno
   obtain ⟨g1,g2⟩:=b5u.1 a10
   refine ⟨.inr (.inr (.inl ⟨h3,a1,a2,a3,a4,a5,by simp [a6],by dsimp only;rw [List.length_append];simp;omega,fun o ho=>?_,fun o ho=>?_,b5u.2 ⟨fun o ho=>?_,?_⟩⟩)),h3,rfl,?_,fun l hl=>?_,.inr (by simp),by simp⟩
   ·rcases List.mem_append.1 ho with ho | ho
    ·exact a8 o ho
    ·simp only [List.mem_singleton] at ho;subst ho;exact hkf
   ·rcases List.mem_append.1 ho with ho | ho
    ·exact a9 o ho
    ·simp only [List.mem_singleton] at ho;subst ho;exact hvf
   ·rcases List.mem_append.1 ho with ho | ho
    ·exact g1 o ho
    ·simp only [List.mem_singleton] at ho;subst ho;exact hk
   ·refine List.pairwise_append.2 ⟨g2,List.pairwise_singleton _ _,fun a ha b hb e=>?_⟩
    simp only [List.mem_singleton] at hb
    subst hb e
    exact hno ha
   ·have e:j1 k 0 (c.keys++[k])=(c.keys.length:Int):=by
     rw [b2A,if_neg (show ¬ 0≤j1 k 0 c.keys by omega),if_pos rfl,Nat.zero_add]
    unfold look
    dsimp only
    rw [e,if_neg (by omega)]
    simp only [Int.toNat_natCast]
    rw [List.getElem?_append_right (by omega),a6]
    simp
   ·unfold look
    dsimp only
    by_cases hl0:j1 l 0 c.keys<0
    ·have e:j1 l 0 (c.keys++[k])= -1:=by
      rw [b2A,if_neg (show ¬ 0≤j1 l 0 c.keys by omega),if_neg (fun e=>hl e.symm)]
     rw [e,if_pos (by decide),if_pos hl0]
    ·have e:j1 l 0 (c.keys++[k])=j1 l 0 c.keys:=by
      rw [b2A,if_pos (show 0≤j1 l 0 c.keys by omega)]
     rw [e,if_neg hl0,if_neg hl0]
     obtain ⟨j,hj,hjl,hjk⟩:=b2B ((a6i l c.keys 0).1 (by omega))
     rw [hj]
     simp only [Int.toNat_natCast]
     rw [List.getElem?_append_left (by omega)]
end Go.Ab.Td
namespace Go.Ab.Td
set_option maxRecDepth 100000
open Go Go.Ab
variable {P:Program}
set_option linter.unusedSimpArgs false
attribute [local irreducible] e9
end Go.Ab.Td
namespace Go.Ab.Td
set_option maxRecDepth 100000
set_option maxRecDepth 100000
open Go Go.Ab Go.ChangeShapes
theorem c0v {α:Type} {f:α→List PV} {ts:List Ty} {Q:α→Prop} (one:∀ qs,b7n qs ts→∃ o,qs=f o∧Q o):∀ (rows:List (List PV)),(∀ row ∈ rows,row.length=ts.length)→(∀ row ∈ rows,∀ (j:Nat) (q:PV) (t:Ty),row[j]?=some q→ts[j]?=some t→Has t q)→∃ l:List α,rows=l.map f∧∀ o ∈ l,Q o
 | [],_,_=>⟨[],rfl,by simp⟩
 | r::rows,h1,h2=>by
   obtain ⟨o,e,hq⟩:=one r ⟨h1 r (by simp),h2 r (by simp)⟩
   obtain ⟨l,e2,hl⟩:=c0v one rows (fun x hx=>h1 x (by simp [hx])) (fun x hx=>h2 x (by simp [hx]))
   exact ⟨o::l,by rw [e,e2];rfl,by simpa using ⟨hq,hl⟩⟩
end Go.Ab.Td
namespace Go.Ab.Td
set_option maxRecDepth 100000
set_option maxRecDepth 100000
open Go Go.Ab Go.ChangeShapes
theorem Wd.word (w:Wd):a5h w.row:=⟨_,_,_,_,_,rfl,w.hA,w.hB,w.hN⟩
theorem b5q {rows:List (List PV)} (hw:∀ row ∈ rows,row.length=a5b.length) (h:∀ row ∈ rows,∀ (j:Nat) (q:PV) (t:Ty),row[j]?=some q→a5b[j]?=some t→Has t q):∀ r ∈ rows,a5h r:=by
 intro r hr
 obtain ⟨w,rfl⟩:=c6h ⟨hw r hr,h r hr⟩
 exact w.word
theorem c1t {p:PV} (h:b5P (true,c0q) p):∃ cells ops e6,p= .agg [.sl 5 cells,.sl 5 ops,.sl 1 e6]∧(∀ r ∈ cells,a5h r)∧(∀ r ∈ ops,a5h r)∧∀ r ∈ e6,∃ D,r=[.int .u8 D]∧0≤D∧D<256:=by
 obtain ⟨qs,e,hl,h⟩:=h
 simp only [b5Y] at e
 subst e
 match qs,hl with
 | [a,b,c],_=>
   have k0:=h 0 _ _ rfl rfl
   have k1:=h 1 _ _ rfl rfl
   have k2:=h 2 _ _ rfl rfl
   cases k0 with
   | sl w0 g0=>
   cases k1 with
   | sl w1 g1=>
   cases k2 with
   | sl w2 g2=>
     refine ⟨_,_,_,rfl,b5q w0 g0,b5q w1 g1,fun r hr=>?_⟩
     have hlr:=w2 r hr
     match r,hlr with
     | [q],_=>
       have k:=g2 _ hr 0 _ _ rfl rfl
       cases k with
       | int w=>exact ⟨_,rfl,c1a w⟩
def nC (c:Cl):Prop:=(∀ o ∈ c.items,o.n<9223372036854775808)∧(∀ o ∈ c.keys,o.n<9223372036854775808)∧∀ o ∈ c.x7,o.n<9223372036854775808
end Go.Ab.Td
namespace Go.Ab.Td
set_option maxRecDepth 100000
set_option maxRecDepth 100000
open Go Go.Ab
theorem nC.c9W {c:Cl} (h:nC c):∀ l ∈ a3O c,∀ o ∈ l,o.n<9223372036854775808:=by
 unfold a3O
 exact c7O.2 h
theorem c3Q {l:List Ob} {m:Nat} (h:SlR (.sl 7 (l.map i4)) m):∀ o ∈ l,o.n<9223372036854775808:=by
 intro o ho
 rcases h with ⟨h1, -⟩ | ⟨rr,h1, -, -,hf⟩
 ·cases h1
 ·simp only [PV.sl.injEq,true_and] at h1
  subst h1
  obtain ⟨k,e,n,s,r,f,l,hn,he⟩:=hf (i4 o) (List.mem_map_of_mem ho)
  simp only [i4,List.cons.injEq,PV.int.injEq,true_and] at he
  rw [he.2.2.1]
  exact hn
theorem a7Z.nC {c:Cl} (h:a7Z c):nC c:=by
 obtain ⟨-, -,k,b,q1,q2,q3,mx,a,m1,m2,m3,he, -,h1,h2,h3⟩:=h
 simp only [j8,List.cons.injEq,PV.int.injEq,PV.str.injEq,true_and] at he
 obtain ⟨-, -,e1,e2,e3, -⟩:=he
 subst e1 e2 e3
 exact ⟨c3Q h1,c3Q h2,c3Q h3⟩
theorem c3g {h:List Cl} {o:Ob} (hf:fits h o) (hk:o.kind=9):∃ c,h[o.ref.toNat]?=some c∧cellAt h o=c∧c.kind=3∧True:=by
 obtain ⟨h1,h2, -⟩:=b0P hf (by rw [hk];decide)
 rw [hk] at h2
 exact ⟨_,h1,rfl,h2,trivial⟩
end Go.Ab.Td
namespace Go.Ab.Td
set_option maxRecDepth 100000
set_option maxRecDepth 100000
open Go Go.Ab
variable {P:Program}
set_option linter.unusedSimpArgs false
attribute [local irreducible] e9
theorem b7r {h:List Cl} {c:Cl} (hr:Y7 h c):c.small:=by
 rcases hr with ⟨-,h1,h2,h3,h4, -⟩ | ⟨-,h1,h2, -,h4,h5, -⟩ | ⟨-,h1,h2, -,h4,h5,h6,h7, -⟩ | ⟨-,h1,h2,h3,h4, -⟩
 ·exact ⟨by omega,by omega,by omega,by omega⟩
 ·exact ⟨by omega,by omega,by omega,by rw [h1];simp⟩
 ·exact ⟨by omega,by omega,by omega,by rw [h1];simp⟩
 ·exact ⟨by omega,by omega,by omega,by omega⟩
theorem b1X {h:List Cl} (hv:Y2 h) (hl:h.length≤1000000):small h:=⟨hl,fun c hc=>b7r (hv.1 c hc)⟩
theorem c7h {c c':Cl} {k v:Ob} (hc:nC c) (hk:k.n<9223372036854775808) (hv:v.n<9223372036854775808) (hp:a2L c k v=some c'):nC c':=by
 obtain ⟨n1,n2,n3⟩:=hc
 unfold a2L at hp
 split at hp
 ·cases hp
  refine ⟨n1,n2,fun o ho=>?_⟩
  rcases List.mem_or_eq_of_mem_set ho with ho | rfl
  ·exact n3 o ho
  ·exact hv
 ·split at hp
  ·cases hp
  ·cases hp
   refine ⟨n1,fun o ho=>?_,fun o ho=>?_⟩
   ·rcases List.mem_append.1 ho with ho | ho
    ·exact n2 o ho
    ·simp only [List.mem_singleton] at ho;subst ho;exact hk
   ·rcases List.mem_append.1 ho with ho | ho
    ·exact n3 o ho
    ·simp only [List.mem_singleton] at ho;subst ho;exact hv
theorem b8V {h:List Cl} {c:Cl} (hs:∀ d ∈ h,nC d) (hc:nC c) (j:Nat):∀ d ∈ h.set j c,nC d:=by
 intro d hd
 rcases List.mem_or_eq_of_mem_set hd with hd | rfl
 ·exact hs d hd
 ·exact hc
theorem kc0 (C:Laid P) {h:List Cl} (hv:Y2 h) (hl:h.length≤1000000) (hn:∀ c ∈ h,nC c):j4 P G K8 [.sl 7 (List.map j8 h)] [] (pI 0):=by
 have k:=b4M C h (b1X hv hl) (fun c hc=>(hn c hc).c9W)
 rw [((c1l h).resolve_right (fun hx=>hx.1 hv)).2] at k
 exact k
end Go.Ab.Td

/- A part of the proof: the texts TdVf, TdVg, TdAr2, TdAr4, TdVl. Under: nothing. -/
import Derived.Test.YtngmifmcohmfmaaDoorG32
import Derived.Test.YtngmifmcohmfmaaDoorG34
import Derived.Test.YtngmifmcohmfmaaDoorG35
import Derived.Test.YtngmifmcohmfmaaDoorG24
import Derived.Test.YtngmifmcohmfmaaDoorG33
import Derived.Test.YtngmifmcohmfmaaDoorG13
set_option linter.unusedVariables false
namespace Go.Ab.Td
set_option maxRecDepth 100000
set_option maxRecDepth 100000
open Go Go.Ab
set_option linter.unusedSimpArgs false
theorem b6p (k:Ob):∀ (l:List Ob) (i s:Nat),i9 k s l=((s+i:Nat):Int)→l[i]?=some k
 | [],i,s,h=>by simp [i9] at h;omega
 | x::l,i,s,h=>by
   unfold i9 at h
   by_cases e:x=k
   ·rw [if_pos e] at h
    obtain rfl:i=0:=by omega
    simp [e]
   ·rw [if_neg e] at h
    cases i with
    | zero=>
      rcases b3h k l (s+1) with q | ⟨q, -⟩ <;>omega
    | succ i=>
      simp only [List.getElem?_cons_succ]
      exact b6p k l i (s+1) (by rw [h];congr 1;omega)
theorem b0k (k a:Ob):∀ (l:List Ob) (s:Nat),i9 k s (l++[a])=if 0≤i9 k s l then i9 k s l else if a=k then ((s+l.length:Nat):Int) else -1
 | [],s=>by simp [i9]
 | x::l,s=>by
   simp only [List.cons_append]
   unfold i9
   by_cases e:x=k
   ·rw [if_pos e,if_pos e,if_pos (by omega)]
   ·rw [if_neg e,if_neg e,b0k k a l (s+1)]
    simp only [List.length_cons]
    split
    ·rfl
    ·split
     ·congr 1;omega
     ·rfl
def c3s (k:Ob):Prop:=k.kind≠0∧k.kind≠6∧k.key=k
theorem a6v {l:List Ob}:b2v l↔(∀ k ∈ l,c3s k)∧l.Pairwise (·≠·):=by
 constructor
 ·intro h
  refine ⟨fun k hk=>?_,List.pairwise_iff_getElem.2 fun i j hi hj hij e=>?_⟩
  ·obtain ⟨i,hi⟩:=List.getElem?_of_mem hk
   obtain ⟨a,b,c, -⟩:=h i k hi
   exact ⟨a,b,c⟩
  ·obtain ⟨-, -, -,d⟩:=h j l[j] (List.getElem?_eq_getElem hj)
   have q:=(a4f l[j] l j 0 (List.getElem?_eq_getElem hj)).1 (List.mem_take_iff_getElem.2 ⟨i,by omega,e⟩)
   omega
 ·rintro ⟨h1,h2⟩ i k hk
  obtain ⟨a,b,c⟩:=h1 k (List.mem_of_getElem? hk)
  refine ⟨a,b,c,?_⟩
  have no:¬ k ∈ l.take i:=by
   intro hm
   obtain ⟨j,hj,e⟩:=List.mem_take_iff_getElem.1 hm
   obtain ⟨hi,e2⟩:=List.getElem?_eq_some_iff.1 hk
   exact List.pairwise_iff_getElem.1 h2 j i (by omega) hi (by omega) (by rw [e,e2])
  rw [a4f k l i 0 hk] at no
  omega
theorem b4q {k:Ob} {l:List Ob} (h:¬ k ∈ l):i9 k 0 l<0:=by
 have:=mt (a4U k l 0).1 h
 omega
theorem b9a {h:List Cl} {o:Ob} (hn:o.n<9223372036854775808) (hf:fits h o) (hk:(o0 h o).2=0):c3s (o0 h o).1∧fits h (o0 h o).1∧(o0 h o).1.n<9223372036854775808:=by
 obtain ⟨h1,h2,h3,h4⟩:=c0O hn hf hk
 generalize (o0 h o).1=k at h1 h2 h3 h4
 unfold o0 at h2
 rw [if_neg (fun x=>x h1)] at h2
 by_cases h6:k.kind=6
 ·rw [if_pos h6] at h2
  split at h2
  ·simp at h2
  ·simp only [Prod.mk.injEq,and_true] at h2
   rw [← h2] at h6
   simp [D1] at h6
 ·rw [if_neg h6,if_neg h3] at h2
  simp only [Prod.mk.injEq,and_true] at h2
  exact ⟨⟨h3,h6,h2⟩,h1,h4⟩
theorem b3c {h:List Cl} {c:Cl} (hr:T5 h c) (h3:c.kind=3):c.bytes=[]∧c.items.length=0∧c.at'=0∧0≤c.max∧c.max≤200∧c.keys.length=c.v3.length∧(c.keys.length:Int)≤c.max∧(∀ o ∈ c.keys,fits h o)∧(∀ o ∈ c.v3,fits h o)∧b2v c.keys:=by
 rcases hr with ⟨e, -⟩ | ⟨e, -⟩ | ⟨-,r⟩ | ⟨e, -⟩
 ·omega
 ·omega
 ·exact r
 ·omega
theorem a8b {k:Ob} {l:List Ob} (h:k ∈ l):∃ i:Nat,i9 k 0 l=(i:Int)∧i<l.length∧l[i]?=some k:=by
 obtain ⟨i,hi,hl⟩:=c3o ((a4U k l 0).2 h)
 exact ⟨i,hi,hl,b6p k l i 0 (by rw [hi];congr 1;omega)⟩
theorem b7I {h:List Cl} {c c':Cl} {k v:Ob} (hr:T5 h c) (h3:c.kind=3) (hk:c3s k) (hkf:fits h k) (hvf:fits h v) (hp:a0K c k v=some c'):
 T5 h c'∧c'.kind=3∧c'.size=c.size∧look c' k=some v∧(∀ l,l≠k→look c' l=look c l)∧(c'.keys.length=c.keys.length∨c'.keys.length=c.keys.length+1)∧k ∈ c'.keys:=by
 obtain ⟨a1,a2,a3,a4,a5,a6,a7,a8,a9,a10⟩:=b3c hr h3
 unfold a0K at hp
 split at hp
 ·rename_i hi
  cases hp
  obtain ⟨i,hi2,hil,hik⟩:=a8b ((a4U k c.keys 0).1 hi.1)
  rw [hi2] at hi ⊢
  refine ⟨.inr (.inr (.inl ⟨h3,a1,a2,a3,a4,a5,by dsimp only;rw [List.length_set];exact a6,a7,a8,fun o ho=>?_,a10⟩)),h3,rfl,?_,fun l hl=>?_,.inl rfl,List.mem_of_getElem? hik⟩
  ·rcases List.mem_or_eq_of_mem_set ho with ho | rfl
   ·exact a9 o ho
   ·exact hvf
  ·unfold look
   dsimp only
   rw [hi2,if_neg (by omega)]
   simp only [Int.toNat_natCast]
   rw [List.getElem?_set_self (by omega)]
  ·unfold look
   dsimp only
   by_cases hl0:i9 l 0 c.keys<0
   ·rw [if_pos hl0,if_pos hl0]
   ·rw [if_neg hl0,if_neg hl0]
    obtain ⟨j,hj,hjl,hjk⟩:=a8b ((a4U l c.keys 0).1 (by omega))
    rw [hj]
    simp only [Int.toNat_natCast]
    rw [List.getElem?_set_ne]
    intro e
    subst e
    rw [hik] at hjk
    cases hjk
    exact hl rfl
 ·rename_i hi
  split at hp
  ·cases hp
  ·rename_i hm
   cases hp
   have hno:¬ k ∈ c.keys:=by
    intro hx
    obtain ⟨i,hi2,hil, -⟩:=a8b hx
    exact hi (by rw [hi2];omega)
   have hneg:=b4q hno
   obtain ⟨g1,g2⟩:=a6v.1 a10
   refine ⟨.inr (.inr (.inl ⟨h3,a1,a2,a3,a4,a5,by simp [a6],by dsimp only;rw [List.length_append];simp;omega,fun o ho=>?_,fun o ho=>?_,a6v.2 ⟨fun o ho=>?_,?_⟩⟩)),h3,rfl,?_,fun l hl=>?_,.inr (by simp),by simp⟩
   ·rcases List.mem_append.1 ho with ho | ho
    ·exact a8 o ho
    ·simp only [List.mem_singleton] at ho;subst ho;exact hkf
   ·rcases List.mem_append.1 ho with ho | ho
    ·exact a9 o ho
    ·simp only [List.mem_singleton] at ho;subst ho;exact hvf
   ·rcases List.mem_append.1 ho with ho | ho
    ·exact g1 o ho
    ·simp only [List.mem_singleton] at ho;subst ho;exact hk
   ·refine List.pairwise_append.2 ⟨g2,List.pairwise_singleton _ _,fun a ha b hb e=>?_⟩
    simp only [List.mem_singleton] at hb
    subst hb e
    exact hno ha
   ·have e:i9 k 0 (c.keys++[k])=(c.keys.length:Int):=by
     rw [b0k,if_neg (show ¬ 0≤i9 k 0 c.keys by omega),if_pos rfl,Nat.zero_add]
    unfold look
    dsimp only
    rw [e,if_neg (by omega)]
    simp only [Int.toNat_natCast]
    rw [List.getElem?_append_right (by omega),a6]
    simp
   ·unfold look
    dsimp only
    by_cases hl0:i9 l 0 c.keys<0
    ·have e:i9 l 0 (c.keys++[k])= -1:=by
      rw [b0k,if_neg (show ¬ 0≤i9 l 0 c.keys by omega),if_neg (fun e=>hl e.symm)]
     rw [e,if_pos (by decide),if_pos hl0]
    ·have e:i9 l 0 (c.keys++[k])=i9 l 0 c.keys:=by
      rw [b0k,if_pos (show 0≤i9 l 0 c.keys by omega)]
     rw [e,if_neg hl0,if_neg hl0]
     obtain ⟨j,hj,hjl,hjk⟩:=a8b ((a4U l c.keys 0).1 (by omega))
     rw [hj]
     simp only [Int.toNat_natCast]
     rw [List.getElem?_append_left (by omega)]
theorem b7K {h:List Cl} {c:Cl} {k:Ob} (hr:T5 h c) (h3:c.kind=3) (hm:k ∈ c.keys):∃ i:Nat,i9 k 0 c.keys=(i:Int)∧i<c.keys.length∧i<c.v3.length∧T5 h (a0z c i)∧look (a0z c i) k=none:=by
 obtain ⟨a1,a2,a3,a4,a5,a6,a7,a8,a9,a10⟩:=b3c hr h3
 obtain ⟨g1,g2⟩:=a6v.1 a10
 obtain ⟨i,hi,hil,hik⟩:=a8b hm
 have l1:=List.length_eraseIdx_of_lt hil
 have l2:=List.length_eraseIdx_of_lt (show i<c.v3.length by omega)
 refine ⟨i,hi,hil,by omega,.inr (.inr (.inl ⟨h3,a1,a2,a3,a4,a5,?_,?_,fun o ho=>a8 o (List.mem_of_mem_eraseIdx ho),fun o ho=>a9 o (List.mem_of_mem_eraseIdx ho),a6v.2 ⟨fun o ho=>g1 o (List.mem_of_mem_eraseIdx ho),g2.sublist (List.eraseIdx_sublist _ _)⟩⟩)),?_⟩
 ·unfold a0z;dsimp only;omega
 ·unfold a0z;dsimp only;omega
 ·have no:¬ k ∈ c.keys.eraseIdx i:=by
   intro hx
   obtain ⟨j,hj⟩:=List.getElem?_of_mem hx
   rw [List.getElem?_eraseIdx] at hj
   obtain ⟨hi2,e⟩:=List.getElem?_eq_some_iff.1 hik
   split at hj
   ·obtain ⟨hj2,e2⟩:=List.getElem?_eq_some_iff.1 hj
    exact List.pairwise_iff_getElem.1 g2 j i hj2 hi2 (by omega) (by rw [e,e2])
   ·obtain ⟨hj2,e2⟩:=List.getElem?_eq_some_iff.1 hj
    exact List.pairwise_iff_getElem.1 g2 i (j+1) hi2 hj2 (by omega) (by rw [e,e2])
  unfold look a0z
  dsimp only
  rw [if_pos (b4q no)]
end Go.Ab.Td
namespace Go.Ab.Td
set_option maxRecDepth 100000
open Go Go.Ab
variable {P:Program}
set_option linter.unusedSimpArgs false
attribute [local irreducible] j6
end Go.Ab.Td
namespace Go.Ab.Td
set_option maxRecDepth 100000
open Go Go.Ab Go.ChangeShapes
end Go.Ab.Td
namespace Go.Ab.Td
set_option maxRecDepth 100000
set_option maxRecDepth 100000
open Go Go.Ab Go.ChangeShapes
theorem Wd.word (w:Wd):a6P w.row:=⟨_,_,_,_,_,rfl,w.hA,w.hB,w.hN⟩
theorem b2t {rows:List (List PV)} (hw:∀ row ∈ rows,row.length=a7G.length) (h:∀ row ∈ rows,∀ (j:Nat) (q:PV) (t:Ty),row[j]?=some q→a7G[j]?=some t→Has t q):∀ r ∈ rows,a6P r:=by
 intro r hr
 obtain ⟨w,rfl⟩:=b6o ⟨hw r hr,h r hr⟩
 exact w.word
theorem b7j {p:PV} (h:b0w (true,b6k) p):∃ cells ops k8,p= .agg [.sl 5 cells,.sl 5 ops,.sl 1 k8]∧(∀ r ∈ cells,a6P r)∧(∀ r ∈ ops,a6P r)∧∀ r ∈ k8,∃ D,r=[.int .u8 D]∧0≤D∧D<256:=by
 obtain ⟨qs,e,hl,h⟩:=h
 simp only [b0h] at e
 subst e
 match qs,hl with
 | [a,b,c],_=>
   have k0:=h 0 _ _ rfl rfl
   have k1:=h 1 _ _ rfl rfl
   have k2:=h 2 _ _ rfl rfl
   cases k0 with
   | sl w0 g0=>
   cases k1 with
   | sl w1 g1=>
   cases k2 with
   | sl w2 g2=>
     refine ⟨_,_,_,rfl,b2t w0 g0,b2t w1 g1,fun r hr=>?_⟩
     have hlr:=w2 r hr
     match r,hlr with
     | [q],_=>
       have k:=g2 _ hr 0 _ _ rfl rfl
       cases k with
       | int w=>exact ⟨_,rfl,b6O w⟩
def nC (c:Cl):Prop:=(∀ o ∈ c.items,o.n<9223372036854775808)∧(∀ o ∈ c.keys,o.n<9223372036854775808)∧∀ o ∈ c.v3,o.n<9223372036854775808
end Go.Ab.Td
namespace Go.Ab.Td
set_option maxRecDepth 100000
set_option maxRecDepth 100000
open Go Go.Ab
theorem nC.c6j {c:Cl} (h:nC c):∀ l ∈ a2M c,∀ o ∈ l,o.n<9223372036854775808:=by
 unfold a2M
 exact c4m.2 h
theorem b9C {l:List Ob} {m:Nat} (h:SlR (.sl 7 (l.map m6)) m):∀ o ∈ l,o.n<9223372036854775808:=by
 intro o ho
 rcases h with ⟨h1, -⟩ | ⟨rr,h1, -, -,hf⟩
 ·cases h1
 ·simp only [PV.sl.injEq,true_and] at h1
  subst h1
  obtain ⟨k,e,n,s,r,f,l,hn,he⟩:=hf (m6 o) (List.mem_map_of_mem ho)
  simp only [m6,List.cons.injEq,PV.int.injEq,true_and] at he
  rw [he.2.2.1]
  exact hn
theorem a8N.nC {c:Cl} (h:a8N c):nC c:=by
 obtain ⟨-, -,k,b,q1,q2,q3,mx,a,m1,m2,m3,he, -,h1,h2,h3⟩:=h
 simp only [m9,List.cons.injEq,PV.int.injEq,PV.str.injEq,true_and] at he
 obtain ⟨-, -,e1,e2,e3, -⟩:=he
 subst e1 e2 e3
 exact ⟨b9C h1,b9C h2,b9C h3⟩
end Go.Ab.Td

/- A part of the proof: the texts TdHi, TdVf, TdVg, TdAr2, TdAr4, TdVl. Under: nothing. -/
import Derived.Test.YtomfaadmmchdcaaGreatDoorG22
import Derived.Test.YtomfaadmmchdcaaGreatDoorG24
import Derived.Test.YtomfaadmmchdcaaGreatDoorG23
import Derived.Test.YtomfaadmmchdcaaGreatDoorG19
import Derived.Test.YtomfaadmmchdcaaGreatDoorG20
import Derived.Test.YtomfaadmmchdcaaGreatDoorG17
set_option linter.unusedVariables false
namespace Go.Ab.Td
set_option maxRecDepth 100000
set_option maxRecDepth 100000
open Go Go.Ab
structure HI (n:Nat) (h:List Cl):Prop where
 len:10≤h.length∧h.length≤20
 cat:h[4]?=some b4e
 b6u:∀ j:Nat,5≤j→j≤9→∃ c,h[j]?=some c∧c.kind=3
 sz:∀ c ∈ h,c.keys.length≤n∧c.B2.length≤n∧c.items.length≤1000∧c.bytes.length≤4000
 shape:∀ c ∈ h,(c.kind=1→c.items=[]∧c.bytes.length≤1000)∧(c.kind=2→c.bytes=[]∧c.items.length≤1000)
 B2:∀ c ∈ h,∀ o ∈ c.B2,o.n<9223372036854775808
theorem HI.small {n:Nat} {h:List Cl} (t:HI n h) (hn:n≤1000000):small h:=
 ⟨by have:=t.len;omega,fun c hc=>by obtain ⟨a,b,c,d⟩:=t.sz c hc;exact ⟨by omega,by omega,by omega,by omega⟩⟩
theorem b4P {l:List Ob} {m:Nat} (h:SlR (.sl 7 (l.map i4)) m):l.length≤1000:=by
 rcases h with ⟨h, -⟩ | ⟨rr,h,hl,hm, -⟩
 ·cases h
 ·simp only [PV.sl.injEq,true_and] at h
  subst h
  simp only [List.length_map] at hl
  omega
theorem a7l.lens {c:Cl} (h:a7l c):c.keys.length≤1000∧c.B2.length≤1000∧c.items.length≤1000∧c.bytes.length≤4000:=by
 obtain ⟨-, -,k,b,q1,q2,q3,mx,a,m1,m2,m3,he,hb,h1,h2,h3⟩:=h
 simp only [j8,List.cons.injEq,PV.int.injEq,PV.str.injEq,true_and] at he
 obtain ⟨-,e2,e3,e4,e5, -⟩:=he
 subst e2 e3 e4 e5
 exact ⟨b4P h2,b4P h3,b4P h1,hb.1⟩
theorem a2t.hi {h:List Cl} (t:a2t h):HI 1000 h:=by
 have hok:=t.ok
 have hl:=t.len
 obtain ⟨h4,h5,h10⟩:=c2B t
 exact ⟨⟨h10,hl⟩,h4,fun j a b=>⟨_,h5 j a b,rfl⟩,fun c hc=>(hok c hc).lens,fun c hc=>(hok c hc).shape,fun c hc=>(hok c hc).2.1⟩
theorem c2F {h:List Cl} {o:Ob} (hn:o.n<9223372036854775808) (hf:fits h o) (hk:(n4 h o).2=0):fits h (n4 h o).1∧n4 h (n4 h o).1=((n4 h o).1,0)∧(n4 h o).1.kind≠0∧(n4 h o).1.n<9223372036854775808:=by
 have nm:∀ s:List UInt8,s.length≤100→fits h (nmO s)∧n4 h (nmO s)=(nmO s,0)∧(nmO s).kind≠0∧(nmO s).n<9223372036854775808:=fun s hs=>⟨⟨(F2 s false).2 hs,fun hx=>absurd rfl hx⟩,c0q hs,by simp [nmO],by simp [nmO]⟩
 have pl:∀ a:Ob,fits h a→a.kind≠6→a.kind≠0→n4 h a=(a.key,0):=by
  intro a ha h6 h0
  unfold n4
  rw [if_neg (Classical.not_not.2 ha),if_neg h6,if_neg h0]
 by_cases h6:o.kind=6
 ·unfold n4 at hk ⊢
  rw [if_neg (Classical.not_not.2 hf),if_pos h6] at*
  by_cases hl:100<(sub h o).length
  ·rw [if_pos hl] at hk;cases hk
  ·rw [if_neg hl]
   have:=nm (sub h o) (by omega)
   unfold n4 at this
   exact this
 ·have h0:o.kind≠0:=by
   intro h0
   unfold n4 at hk
   rw [if_neg (Classical.not_not.2 hf),if_neg h6,if_pos h0] at hk
   cases hk
  rw [pl o hf h6 h0]
  dsimp only
  by_cases hr:o.kind=4∧o.n.tmod 65536=0
  ·have e:o.key=⟨3,false,o.n.tdiv 65536,[],0,0,0⟩:=by unfold Ob.key;rw [if_pos hr]
   obtain ⟨-,la,ua⟩:=b6S hf.1 (.inr hr.1)
   have hb:=b2H la ua
   have:=tdm hr.2
   have ff:fits h ⟨3,false,o.n.tdiv 65536,[],0,0,0⟩:=fits_int (by omega) (by omega) false
   rw [e]
   refine ⟨ff,?_,by simp,by dsimp only;omega⟩
   rw [pl _ ff (by simp) (by simp)]
   simp [Ob.key]
  ·have e:o.key={o with exec:=false}:=by unfold Ob.key;rw [if_neg hr]
   have ff:fits h {o with exec:=false}:=hf
   rw [e]
   refine ⟨ff,?_,h0,?_⟩
   ·rw [pl _ ff h6 h0]
    unfold Ob.key
    dsimp only
    rw [if_neg hr]
   ·exact hn
theorem b8T {c c':Cl} {k v:Ob} (hp:Y2 c k v=some c'):c'.kind=c.kind∧c'.bytes=c.bytes∧c'.items=c.items∧c'.keys.length≤c.keys.length+1∧c'.B2.length≤c.B2.length+1∧∀ o ∈ c'.B2,o ∈ c.B2∨o=v:=by
 unfold Y2 at hp
 split at hp
 ·cases hp
  refine ⟨rfl,rfl,rfl,by dsimp only;omega,by dsimp only;rw [List.length_set];omega,fun o ho=>?_⟩
  exact List.mem_or_eq_of_mem_set ho
 ·split at hp
  ·cases hp
  ·cases hp
   refine ⟨rfl,rfl,rfl,by dsimp only;rw [List.length_append];simp,by dsimp only;rw [List.length_append];simp,fun o ho=>?_⟩
   dsimp only at ho
   rcases List.mem_append.1 ho with h | h
   ·exact .inl h
   ·exact .inr (by simpa using h)
theorem HI.put {n:Nat} {h:List Cl} (t:HI n h) {j:Nat} (h5:5≤j) (h9:j≤9) {c c':Cl} (hc:h[j]?=some c) {k v:Ob} (hp:Y2 c k v=some c') (hv:v.n<9223372036854775808):HI (n+1) (h.set j c'):=by
 obtain ⟨p1,p2,p3,p4,p5,p6⟩:=b8T hp
 have hm:=List.mem_of_getElem? hc
 have hck:c.kind=3:=by
  obtain ⟨d,hd,hk⟩:=t.b6u j h5 h9
  rw [hc] at hd;cases hd;exact hk
 have mem:∀ x ∈ h.set j c',x ∈ h∨x=c':=fun x hx=>List.mem_or_eq_of_mem_set hx
 refine ⟨by rw [List.length_set];exact t.len,?_,fun i a b=>?_,fun x hx=>?_,fun x hx=>?_,fun x hx=>?_⟩
 ·rw [List.getElem?_set_ne (by omega)];exact t.cat
 ·by_cases hij:j=i
  ·subst hij
   rw [List.getElem?_set_self (by have:=(List.getElem?_eq_some_iff.1 hc).1;exact this)]
   exact ⟨c',rfl,by rw [p1];exact hck⟩
  ·rw [List.getElem?_set_ne hij];exact t.b6u i a b
 ·rcases mem x hx with hx | rfl
  ·obtain ⟨a,b,c,d⟩:=t.sz x hx;exact ⟨by omega,by omega,c,d⟩
  ·obtain ⟨a,b,cc,d⟩:=t.sz c hm
   exact ⟨by omega,by omega,by rw [p3];exact cc,by rw [p2];exact d⟩
 ·rcases mem x hx with hx | rfl
  ·exact t.shape x hx
  ·exact ⟨fun hk=>by omega,fun hk=>by omega⟩
 ·rcases mem x hx with hx | rfl
  ·exact t.B2 x hx
  ·intro o ho
   rcases p6 o ho with h | rfl
   ·exact t.B2 c hm o h
   ·exact hv
end Go.Ab.Td
namespace Go.Ab.Td
set_option maxRecDepth 100000
set_option maxRecDepth 100000
open Go Go.Ab
set_option linter.unusedSimpArgs false
theorem b7F (k:Ob):∀ (l:List Ob) (i s:Nat),i3 k s l=((s+i:Nat):Int)→l[i]?=some k
 | [],i,s,h=>by simp [i3] at h;omega
 | x::l,i,s,h=>by
   unfold i3 at h
   by_cases e:x=k
   ·rw [if_pos e] at h
    obtain rfl:i=0:=by omega
    simp [e]
   ·rw [if_neg e] at h
    cases i with
    | zero=>
      rcases b6z k l (s+1) with q | ⟨q, -⟩ <;>omega
    | succ i=>
      simp only [List.getElem?_cons_succ]
      exact b7F k l i (s+1) (by rw [h];congr 1;omega)
theorem b1q (k a:Ob):∀ (l:List Ob) (s:Nat),i3 k s (l++[a])=if 0≤i3 k s l then i3 k s l else if a=k then ((s+l.length:Nat):Int) else -1
 | [],s=>by simp [i3]
 | x::l,s=>by
   simp only [List.cons_append]
   unfold i3
   by_cases e:x=k
   ·rw [if_pos e,if_pos e,if_pos (by omega)]
   ·rw [if_neg e,if_neg e,b1q k a l (s+1)]
    simp only [List.length_cons]
    split
    ·rfl
    ·split
     ·congr 1;omega
     ·rfl
def b6H (k:Ob):Prop:=k.kind≠0∧k.kind≠6∧k.key=k
theorem a4W {l:List Ob}:b7K l↔(∀ k ∈ l,b6H k)∧l.Pairwise (·≠·):=by
 constructor
 ·intro h
  refine ⟨fun k hk=>?_,List.pairwise_iff_getElem.2 fun i j hi hj hij e=>?_⟩
  ·obtain ⟨i,hi⟩:=List.getElem?_of_mem hk
   obtain ⟨a,b,c, -⟩:=h i k hi
   exact ⟨a,b,c⟩
  ·obtain ⟨-, -, -,d⟩:=h j l[j] (List.getElem?_eq_getElem hj)
   have q:=(a8W l[j] l j 0 (List.getElem?_eq_getElem hj)).1 (List.mem_take_iff_getElem.2 ⟨i,by omega,e⟩)
   omega
 ·rintro ⟨h1,h2⟩ i k hk
  obtain ⟨a,b,c⟩:=h1 k (List.mem_of_getElem? hk)
  refine ⟨a,b,c,?_⟩
  have no:¬ k ∈ l.take i:=by
   intro hm
   obtain ⟨j,hj,e⟩:=List.mem_take_iff_getElem.1 hm
   obtain ⟨hi,e2⟩:=List.getElem?_eq_some_iff.1 hk
   exact List.pairwise_iff_getElem.1 h2 j i (by omega) hi (by omega) (by rw [e,e2])
  rw [a8W k l i 0 hk] at no
  omega
theorem b5n {k:Ob} {l:List Ob} (h:¬ k ∈ l):i3 k 0 l<0:=by
 have:=mt (a6Y k l 0).1 h
 omega
theorem c0p {h:List Cl} {o:Ob} (hn:o.n<9223372036854775808) (hf:fits h o) (hk:(n4 h o).2=0):b6H (n4 h o).1∧fits h (n4 h o).1∧(n4 h o).1.n<9223372036854775808:=by
 obtain ⟨h1,h2,h3,h4⟩:=c2F hn hf hk
 generalize (n4 h o).1=k at h1 h2 h3 h4
 unfold n4 at h2
 rw [if_neg (fun x=>x h1)] at h2
 by_cases h6:k.kind=6
 ·rw [if_pos h6] at h2
  split at h2
  ·simp at h2
  ·simp only [Prod.mk.injEq,and_true] at h2
   rw [← h2] at h6
   simp [nmO] at h6
 ·rw [if_neg h6,if_neg h3] at h2
  simp only [Prod.mk.injEq,and_true] at h2
  exact ⟨⟨h3,h6,h2⟩,h1,h4⟩
theorem b7y {h:List Cl} {c:Cl} (hr:S7 h c) (h3:c.kind=3):c.bytes=[]∧c.items.length=0∧c.at'=0∧0≤c.max∧c.max≤200∧c.keys.length=c.B2.length∧(c.keys.length:Int)≤c.max∧(∀ o ∈ c.keys,fits h o)∧(∀ o ∈ c.B2,fits h o)∧b7K c.keys:=by
 rcases hr with ⟨e, -⟩ | ⟨e, -⟩ | ⟨-,r⟩ | ⟨e, -⟩
 ·omega
 ·omega
 ·exact r
 ·omega
theorem a8V {k:Ob} {l:List Ob} (h:k ∈ l):∃ i:Nat,i3 k 0 l=(i:Int)∧i<l.length∧l[i]?=some k:=by
 obtain ⟨i,hi,hl⟩:=c4w ((a6Y k l 0).2 h)
 exact ⟨i,hi,hl,b7F k l i 0 (by rw [hi];congr 1;omega)⟩
theorem b8U {h:List Cl} {c c':Cl} {k v:Ob} (hr:S7 h c) (h3:c.kind=3) (hk:b6H k) (hkf:fits h k) (hvf:fits h v) (hp:Y2 c k v=some c'):
 S7 h c'∧c'.kind=3∧c'.size=c.size∧look c' k=some v∧(∀ l,l≠k→look c' l=look c l)∧(c'.keys.length=c.keys.length∨c'.keys.length=c.keys.length+1)∧k ∈ c'.keys:=by
 obtain ⟨a1,a2,a3,a4,a5,a6,a7,a8,a9,a10⟩:=b7y hr h3
 unfold Y2 at hp
 split at hp
 ·rename_i hi
  cases hp
  obtain ⟨i,hi2,hil,hik⟩:=a8V ((a6Y k c.keys 0).1 hi.1)
  rw [hi2] at hi ⊢
  refine ⟨.inr (.inr (.inl ⟨h3,a1,a2,a3,a4,a5,by dsimp only;rw [List.length_set];exact a6,a7,a8,fun o ho=>?_,a10⟩)),h3,rfl,?_,fun l hl=>?_,.inl rfl,List.mem_of_getElem? hik⟩
  ·rcases List.mem_or_eq_of_mem_set ho with ho | rfl
   ·exact a9 o ho
   ·exact hvf
  ·unfold look
   dsimp only
   rw [hi2,if_neg (by omega)]
   simp only [Int.toNat_natCast]
   rw [List.getElem?_set_self (by omega)]
  ·unfold look
   dsimp only
   by_cases hl0:i3 l 0 c.keys<0
   ·rw [if_pos hl0,if_pos hl0]
   ·rw [if_neg hl0,if_neg hl0]
    obtain ⟨j,hj,hjl,hjk⟩:=a8V ((a6Y l c.keys 0).1 (by omega))
    rw [hj]
    simp only [Int.toNat_natCast]
    rw [List.getElem?_set_ne]
    intro e
    subst e
    rw [hik] at hjk
    cases hjk
    exact hl rfl
 ·rename_i hi
  split at hp
  ·cases hp
  ·rename_i hm
   cases hp
   have hno:¬ k ∈ c.keys:=by
    intro hx
    obtain ⟨i,hi2,hil, -⟩:=a8V hx
    exact hi (by rw [hi2];omega)
   have hneg:=b5n hno
   obtain ⟨g1,g2⟩:=a4W.1 a10
   refine ⟨.inr (.inr (.inl ⟨h3,a1,a2,a3,a4,a5,by simp [a6],by dsimp only;rw [List.length_append];simp;omega,fun o ho=>?_,fun o ho=>?_,a4W.2 ⟨fun o ho=>?_,?_⟩⟩)),h3,rfl,?_,fun l hl=>?_,.inr (by simp),by simp⟩
   ·rcases List.mem_append.1 ho with ho | ho
    ·exact a8 o ho
    ·simp only [List.mem_singleton] at ho;subst ho;exact hkf
   ·rcases List.mem_append.1 ho with ho | ho
    ·exact a9 o ho
    ·simp only [List.mem_singleton] at ho;subst ho;exact hvf
   ·rcases List.mem_append.1 ho with ho | ho
    ·exact g1 o ho
    ·simp only [List.mem_singleton] at ho;subst ho;exact hk
   ·refine List.pairwise_append.2 ⟨g2,List.pairwise_singleton _ _,fun a ha b hb e=>?_⟩
    simp only [List.mem_singleton] at hb
    subst hb e
    exact hno ha
   ·have e:i3 k 0 (c.keys++[k])=(c.keys.length:Int):=by
     rw [b1q,if_neg (show ¬ 0≤i3 k 0 c.keys by omega),if_pos rfl,Nat.zero_add]
    unfold look
    dsimp only
    rw [e,if_neg (by omega)]
    simp only [Int.toNat_natCast]
    rw [List.getElem?_append_right (by omega),a6]
    simp
   ·unfold look
    dsimp only
    by_cases hl0:i3 l 0 c.keys<0
    ·have e:i3 l 0 (c.keys++[k])= -1:=by
      rw [b1q,if_neg (show ¬ 0≤i3 l 0 c.keys by omega),if_neg (fun e=>hl e.symm)]
     rw [e,if_pos (by decide),if_pos hl0]
    ·have e:i3 l 0 (c.keys++[k])=i3 l 0 c.keys:=by
      rw [b1q,if_pos (show 0≤i3 l 0 c.keys by omega)]
     rw [e,if_neg hl0,if_neg hl0]
     obtain ⟨j,hj,hjl,hjk⟩:=a8V ((a6Y l c.keys 0).1 (by omega))
     rw [hj]
     simp only [Int.toNat_natCast]
     rw [List.getElem?_append_left (by omega)]
theorem b8W {h:List Cl} {c:Cl} {k:Ob} (hr:S7 h c) (h3:c.kind=3) (hm:k ∈ c.keys):∃ i:Nat,i3 k 0 c.keys=(i:Int)∧i<c.keys.length∧i<c.B2.length∧S7 h (a6a c i)∧look (a6a c i) k=none:=by
 obtain ⟨a1,a2,a3,a4,a5,a6,a7,a8,a9,a10⟩:=b7y hr h3
 obtain ⟨g1,g2⟩:=a4W.1 a10
 obtain ⟨i,hi,hil,hik⟩:=a8V hm
 have l1:=List.length_eraseIdx_of_lt hil
 have l2:=List.length_eraseIdx_of_lt (show i<c.B2.length by omega)
 refine ⟨i,hi,hil,by omega,.inr (.inr (.inl ⟨h3,a1,a2,a3,a4,a5,?_,?_,fun o ho=>a8 o (List.mem_of_mem_eraseIdx ho),fun o ho=>a9 o (List.mem_of_mem_eraseIdx ho),a4W.2 ⟨fun o ho=>g1 o (List.mem_of_mem_eraseIdx ho),g2.sublist (List.eraseIdx_sublist _ _)⟩⟩)),?_⟩
 ·unfold a6a;dsimp only;omega
 ·unfold a6a;dsimp only;omega
 ·have no:¬ k ∈ c.keys.eraseIdx i:=by
   intro hx
   obtain ⟨j,hj⟩:=List.getElem?_of_mem hx
   rw [List.getElem?_eraseIdx] at hj
   obtain ⟨hi2,e⟩:=List.getElem?_eq_some_iff.1 hik
   split at hj
   ·obtain ⟨hj2,e2⟩:=List.getElem?_eq_some_iff.1 hj
    exact List.pairwise_iff_getElem.1 g2 j i hj2 hi2 (by omega) (by rw [e,e2])
   ·obtain ⟨hj2,e2⟩:=List.getElem?_eq_some_iff.1 hj
    exact List.pairwise_iff_getElem.1 g2 i (j+1) hi2 hj2 (by omega) (by rw [e,e2])
  unfold look a6a
  dsimp only
  rw [if_pos (b5n no)]
end Go.Ab.Td
namespace Go.Ab.Td
set_option maxRecDepth 100000
open Go Go.Ab
variable {P:Program}
set_option linter.unusedSimpArgs false
attribute [local irreducible] e9
end Go.Ab.Td
namespace Go.Ab.Td
set_option maxRecDepth 100000
open Go Go.Ab Go.ChangeShapes
end Go.Ab.Td
namespace Go.Ab.Td
set_option maxRecDepth 100000
set_option maxRecDepth 100000
open Go Go.Ab Go.ChangeShapes
theorem Wd.word (w:Wd):a1W w.row:=⟨_,_,_,_,_,rfl,w.hA,w.hB,w.hN⟩
theorem b3B {rows:List (List PV)} (hw:∀ row ∈ rows,row.length=a5T.length) (h:∀ row ∈ rows,∀ (j:Nat) (q:PV) (t:Ty),row[j]?=some q→a5T[j]?=some t→Has t q):∀ r ∈ rows,a1W r:=by
 intro r hr
 obtain ⟨w,rfl⟩:=b7E ⟨hw r hr,h r hr⟩
 exact w.word
theorem b3A {p:PV} (h:a9J (true,b4l) p):∃ cells ops d5,p= .agg [.sl 5 cells,.sl 5 ops,.sl 1 d5]∧(∀ r ∈ cells,a1W r)∧(∀ r ∈ ops,a1W r)∧∀ r ∈ d5,∃ D,r=[.int .u8 D]∧0≤D∧D<256:=by
 obtain ⟨qs,e,hl,h⟩:=h
 simp only [a8K] at e
 subst e
 match qs,hl with
 | [a,b,c],_=>
   have k0:=h 0 _ _ rfl rfl
   have k1:=h 1 _ _ rfl rfl
   have k2:=h 2 _ _ rfl rfl
   cases k0 with
   | sl w0 g0=>
   cases k1 with
   | sl w1 g1=>
   cases k2 with
   | sl w2 g2=>
     refine ⟨_,_,_,rfl,b3B w0 g0,b3B w1 g1,fun r hr=>?_⟩
     have hlr:=w2 r hr
     match r,hlr with
     | [q],_=>
       have k:=g2 _ hr 0 _ _ rfl rfl
       cases k with
       | int w=>exact ⟨_,rfl,c2i w⟩
def nC (c:Cl):Prop:=(∀ o ∈ c.items,o.n<9223372036854775808)∧(∀ o ∈ c.keys,o.n<9223372036854775808)∧∀ o ∈ c.B2,o.n<9223372036854775808
end Go.Ab.Td
namespace Go.Ab.Td
set_option maxRecDepth 100000
set_option maxRecDepth 100000
open Go Go.Ab
theorem nC.c8z {c:Cl} (h:nC c):∀ l ∈ c0F c,∀ o ∈ l,o.n<9223372036854775808:=by
 unfold c0F
 exact c7C.2 h
theorem c0Z {l:List Ob} {m:Nat} (h:SlR (.sl 7 (l.map i4)) m):∀ o ∈ l,o.n<9223372036854775808:=by
 intro o ho
 rcases h with ⟨h1, -⟩ | ⟨rr,h1, -, -,hf⟩
 ·cases h1
 ·simp only [PV.sl.injEq,true_and] at h1
  subst h1
  obtain ⟨k,e,n,s,r,f,l,hn,he⟩:=hf (i4 o) (List.mem_map_of_mem ho)
  simp only [i4,List.cons.injEq,PV.int.injEq,true_and] at he
  rw [he.2.2.1]
  exact hn
theorem a7l.nC {c:Cl} (h:a7l c):nC c:=by
 obtain ⟨-, -,k,b,q1,q2,q3,mx,a,m1,m2,m3,he, -,h1,h2,h3⟩:=h
 simp only [j8,List.cons.injEq,PV.int.injEq,PV.str.injEq,true_and] at he
 obtain ⟨-, -,e1,e2,e3, -⟩:=he
 subst e1 e2 e3
 exact ⟨c0Z h1,c0Z h2,c0Z h3⟩
end Go.Ab.Td

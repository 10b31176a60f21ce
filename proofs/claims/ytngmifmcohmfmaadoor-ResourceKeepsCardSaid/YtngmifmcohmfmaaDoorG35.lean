/- A part of the proof: the texts TdHi. Under: nothing. -/
import Derived.Test.YtngmifmcohmfmaaDoorG27
import Derived.Test.YtngmifmcohmfmaaDoorG33
import Derived.Test.YtngmifmcohmfmaaDoorG31
import Derived.Test.YtngmifmcohmfmaaDoorG24
set_option linter.unusedVariables false
namespace Go.Ab.Td
set_option maxRecDepth 100000
set_option maxRecDepth 100000
open Go Go.Ab
structure HI (n:Nat) (h:List Cl):Prop where
 len:10≤h.length∧h.length≤20
 cat:h[4]?=some a4L
 b5k:∀ j:Nat,5≤j→j≤9→∃ c,h[j]?=some c∧c.kind=3
 sz:∀ c ∈ h,c.keys.length≤n∧c.v3.length≤n∧c.items.length≤1000∧c.bytes.length≤4000
 shape:∀ c ∈ h,(c.kind=1→c.items=[]∧c.bytes.length≤1000)∧(c.kind=2→c.bytes=[]∧c.items.length≤1000)
 v3:∀ c ∈ h,∀ o ∈ c.v3,o.n<9223372036854775808
theorem HI.small {n:Nat} {h:List Cl} (t:HI n h) (hn:n≤1000000):small h:=
 ⟨by have:=t.len;omega,fun c hc=>by obtain ⟨a,b,c,d⟩:=t.sz c hc;exact ⟨by omega,by omega,by omega,by omega⟩⟩
theorem b3K {l:List Ob} {m:Nat} (h:SlR (.sl 7 (l.map m6)) m):l.length≤1000:=by
 rcases h with ⟨h, -⟩ | ⟨rr,h,hl,hm, -⟩
 ·cases h
 ·simp only [PV.sl.injEq,true_and] at h
  subst h
  simp only [List.length_map] at hl
  omega
theorem a8N.lens {c:Cl} (h:a8N c):c.keys.length≤1000∧c.v3.length≤1000∧c.items.length≤1000∧c.bytes.length≤4000:=by
 obtain ⟨-, -,k,b,q1,q2,q3,mx,a,m1,m2,m3,he,hb,h1,h2,h3⟩:=h
 simp only [m9,List.cons.injEq,PV.int.injEq,PV.str.injEq,true_and] at he
 obtain ⟨-,e2,e3,e4,e5, -⟩:=he
 subst e2 e3 e4 e5
 exact ⟨b3K h2,b3K h3,b3K h1,hb.1⟩
theorem a1u.hi {h:List Cl} (t:a1u h):HI 1000 h:=by
 have hok:=t.ok
 have hl:=t.len
 obtain ⟨h4,h5,h10⟩:=c0K t
 exact ⟨⟨h10,hl⟩,h4,fun j a b=>⟨_,h5 j a b,rfl⟩,fun c hc=>(hok c hc).lens,fun c hc=>(hok c hc).shape,fun c hc=>(hok c hc).2.1⟩
theorem c0O {h:List Cl} {o:Ob} (hn:o.n<9223372036854775808) (hf:fits h o) (hk:(o0 h o).2=0):fits h (o0 h o).1∧o0 h (o0 h o).1=((o0 h o).1,0)∧(o0 h o).1.kind≠0∧(o0 h o).1.n<9223372036854775808:=by
 have nm:∀ s:List UInt8,s.length≤100→fits h (D1 s)∧o0 h (D1 s)=(D1 s,0)∧(D1 s).kind≠0∧(D1 s).n<9223372036854775808:=fun s hs=>⟨⟨(F9 s false).2 hs,fun hx=>absurd rfl hx⟩,b3q hs,by simp [D1],by simp [D1]⟩
 have pl:∀ a:Ob,fits h a→a.kind≠6→a.kind≠0→o0 h a=(a.key,0):=by
  intro a ha h6 h0
  unfold o0
  rw [if_neg (Classical.not_not.2 ha),if_neg h6,if_neg h0]
 by_cases h6:o.kind=6
 ·unfold o0 at hk ⊢
  rw [if_neg (Classical.not_not.2 hf),if_pos h6] at*
  by_cases hl:100<(sub h o).length
  ·rw [if_pos hl] at hk;cases hk
  ·rw [if_neg hl]
   have:=nm (sub h o) (by omega)
   unfold o0 at this
   exact this
 ·have h0:o.kind≠0:=by
   intro h0
   unfold o0 at hk
   rw [if_neg (Classical.not_not.2 hf),if_neg h6,if_pos h0] at hk
   cases hk
  rw [pl o hf h6 h0]
  dsimp only
  by_cases hr:o.kind=4∧o.n.tmod 65536=0
  ·have e:o.key=⟨3,false,o.n.tdiv 65536,[],0,0,0⟩:=by unfold Ob.key;rw [if_pos hr]
   obtain ⟨-,la,ua⟩:=b5D hf.1 (.inr hr.1)
   have hb:=b1B la ua
   have:=tdm hr.2
   have ff:fits h ⟨3,false,o.n.tdiv 65536,[],0,0,0⟩:=fits_int (by omega) (by omega) false
   rw [e]
   refine ⟨ff,?_,by simp,by dsimp only;omega⟩
   rw [pl _ ff (by simp) (by simp)]
   simp [Ob.key]
  ·have e:o.key={o with exec:=false}:=by unfold Ob.key;rw [if_neg hr]
   have ff:fits h {o with exec:=false}:=hf
   rw [e]
   refine ⟨ff,?_,h0,?_⟩
   ·rw [pl _ ff h6 h0]
    unfold Ob.key
    dsimp only
    rw [if_neg hr]
   ·exact hn
theorem b7H {c c':Cl} {k v:Ob} (hp:a0K c k v=some c'):c'.kind=c.kind∧c'.bytes=c.bytes∧c'.items=c.items∧c'.keys.length≤c.keys.length+1∧c'.v3.length≤c.v3.length+1∧∀ o ∈ c'.v3,o ∈ c.v3∨o=v:=by
 unfold a0K at hp
 split at hp
 ·cases hp
  refine ⟨rfl,rfl,rfl,by dsimp only;omega,by dsimp only;rw [List.length_set];omega,fun o ho=>?_⟩
  exact List.mem_or_eq_of_mem_set ho
 ·split at hp
  ·cases hp
  ·cases hp
   refine ⟨rfl,rfl,rfl,by dsimp only;rw [List.length_append];simp,by dsimp only;rw [List.length_append];simp,fun o ho=>?_⟩
   dsimp only at ho
   rcases List.mem_append.1 ho with h | h
   ·exact .inl h
   ·exact .inr (by simpa using h)
theorem HI.put {n:Nat} {h:List Cl} (t:HI n h) {j:Nat} (h5:5≤j) (h9:j≤9) {c c':Cl} (hc:h[j]?=some c) {k v:Ob} (hp:a0K c k v=some c') (hv:v.n<9223372036854775808):HI (n+1) (h.set j c'):=by
 obtain ⟨p1,p2,p3,p4,p5,p6⟩:=b7H hp
 have hm:=List.mem_of_getElem? hc
 have hck:c.kind=3:=by
  obtain ⟨d,hd,hk⟩:=t.b5k j h5 h9
  rw [hc] at hd;cases hd;exact hk
 have mem:∀ x ∈ h.set j c',x ∈ h∨x=c':=fun x hx=>List.mem_or_eq_of_mem_set hx
 refine ⟨by rw [List.length_set];exact t.len,?_,fun i a b=>?_,fun x hx=>?_,fun x hx=>?_,fun x hx=>?_⟩
 ·rw [List.getElem?_set_ne (by omega)];exact t.cat
 ·by_cases hij:j=i
  ·subst hij
   rw [List.getElem?_set_self (by have:=(List.getElem?_eq_some_iff.1 hc).1;exact this)]
   exact ⟨c',rfl,by rw [p1];exact hck⟩
  ·rw [List.getElem?_set_ne hij];exact t.b5k i a b
 ·rcases mem x hx with hx | rfl
  ·obtain ⟨a,b,c,d⟩:=t.sz x hx;exact ⟨by omega,by omega,c,d⟩
  ·obtain ⟨a,b,cc,d⟩:=t.sz c hm
   exact ⟨by omega,by omega,by rw [p3];exact cc,by rw [p2];exact d⟩
 ·rcases mem x hx with hx | rfl
  ·exact t.shape x hx
  ·exact ⟨fun hk=>by omega,fun hk=>by omega⟩
 ·rcases mem x hx with hx | rfl
  ·exact t.v3 x hx
  ·intro o ho
   rcases p6 o ho with h | rfl
   ·exact t.v3 c hm o h
   ·exact hv
end Go.Ab.Td

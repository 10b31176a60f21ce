/- A part of the proof: the texts TdSk, TdHi, TdO. Under: nothing. -/
import Derived.Test.YtomfaadmmchdcaaDoorG20
import Derived.Test.YtomfaadmmchdcaaDoorG28
import Derived.Test.YtomfaadmmchdcaaDoorG24
import Derived.Test.YtomfaadmmchdcaaDoorG21
import Derived.Test.YtomfaadmmchdcaaDoorG27
import Derived.Test.YtomfaadmmchdcaaDoorG18
set_option linter.unusedVariables false
namespace Go.Ab.Td
set_option maxRecDepth 100000
set_option maxRecDepth 100000
open Go Go.Ab
variable {P:Program}
set_option linter.unusedSimpArgs false
attribute [local irreducible] g8
set_option maxHeartbeats 1000000 in
theorem b5t (C:Laid P) (s:C3) (k i c d:Ob) (n:Int) (hs:nOk s) (hd:d.n<9223372036854775808) (h0:1≤n) (h1:n≤s.ops.length) (h2:s.ops.length≤100) (hv:N2 s.heap d [9]=0) (hx:i6 k 0 (cellAt s.heap d).keys<0∨(cellAt s.heap d).p8.length≤i6 k 0 (cellAt s.heap d).keys):l8 P G q9 [aS s,.agg (a5Q k i c d n)] [] (.p7 [aS {s with ops:=s.ops.take (s.ops.length - n.toNat)++[],heap:=s.heap},pI 0]):=by
 refine j3 C (I5 C) rfl ?_
 repeat' ((conv=>whnf);first | (with_reducible refine sC (by kernel_rfl) ?_) | ((first | (with_reducible first | refine sB ?_ | refine x4 ?_ | refine x5 ?_) | refine sP (by rfl) ?_);first | refine oT ?_ | refine oF ?_ | (refine Or.inr (Or.inr ⟨fun hsp=>?_,fun hsp=>?_⟩) <;>(try simp only [nm] at hsp) <;>try subst hsp)) | refine ⟨_,_,a9r C s.heap d k hs.1 hd hv hx,?_⟩ | refine ⟨_,_,(a6X (s8 C s k i c d n (s.heap) [] (by omega) (by omega) (by omega) (by simp;omega)) (.cons (.refl _) (.cons (.refl _) (.cons (.refl _) (.cons (.emp 7) .nil))))),?_⟩ | fail)
 all_goals (conv=>whnf)
 all_goals (exact PV.le.refl _)
set_option maxHeartbeats 1000000 in
theorem b9K (C:Laid P) (s:C3) (k i c d:Ob) (n:Int) (hs:nOk s) (hd:d.n<9223372036854775808) (h0:1≤n) (h1:n≤s.ops.length) (h2:s.ops.length≤100) (hv:N2 s.heap d [9]=0) (q:Nat) (hi:i6 k 0 (cellAt s.heap d).keys=(q:Int)) (hik:q<(cellAt s.heap d).keys.length) (hiv:q<(cellAt s.heap d).p8.length):l8 P G q9 [aS s,.agg (a5Q k i c d n)] [] (.p7 [aS {s with ops:=s.ops.take (s.ops.length - n.toNat)++[],heap:=s.heap.set d.ref.toNat (a1g (cellAt s.heap d) q)},pI 0]):=by
 refine j3 C (I5 C) rfl ?_
 repeat' ((conv=>whnf);first | (with_reducible refine sC (by kernel_rfl) ?_) | ((first | (with_reducible first | refine sB ?_ | refine x4 ?_ | refine x5 ?_) | refine sP (by rfl) ?_);first | refine oT ?_ | refine oF ?_ | (refine Or.inr (Or.inr ⟨fun hsp=>?_,fun hsp=>?_⟩) <;>(try simp only [nm] at hsp) <;>try subst hsp)) | refine ⟨_,_,pg C (a9q C s.heap d k hs.1 hd hv q hi hik hiv),?_⟩ | refine ⟨_,_,(a6X (s8 C s k i c d n (s.heap.set d.ref.toNat (a1g (cellAt s.heap d) q)) [] (by omega) (by omega) (by omega) (by simp;omega)) (.cons (.refl _) (.cons (.refl _) (.cons (.refl _) (.cons (.emp 7) .nil))))),?_⟩ | fail)
 all_goals (conv=>whnf)
 all_goals (exact PV.le.refl _)
end Go.Ab.Td
namespace Go.Ab.Td
set_option maxRecDepth 100000
set_option maxRecDepth 100000
open Go Go.Ab
structure HI (n:Nat) (h:List Cl):Prop where
 len:10≤h.length∧h.length≤20
 cat:h[4]?=some a7R
 b4J:∀ j:Nat,5≤j→j≤9→∃ c,h[j]?=some c∧c.kind=3
 sz:∀ c ∈ h,c.keys.length≤n∧c.p8.length≤n∧c.items.length≤1000∧c.bytes.length≤4000
 shape:∀ c ∈ h,(c.kind=1→c.items=[]∧c.bytes.length≤1000)∧(c.kind=2→c.bytes=[]∧c.items.length≤1000)
 p8:∀ c ∈ h,∀ o ∈ c.p8,o.n<9223372036854775808
theorem HI.small {n:Nat} {h:List Cl} (t:HI n h) (hn:n≤1000000):small h:=
 ⟨by have:=t.len;omega,fun c hc=>by obtain ⟨a,b,c,d⟩:=t.sz c hc;exact ⟨by omega,by omega,by omega,by omega⟩⟩
theorem b5D {l:List Ob} {m:Nat} (h:SlR (.sl 7 (l.map i4)) m):l.length≤1000:=by
 rcases h with ⟨h, -⟩ | ⟨rr,h,hl,hm, -⟩
 ·cases h
 ·simp only [PV.sl.injEq,true_and] at h
  subst h
  simp only [List.length_map] at hl
  omega
theorem a7T.lens {c:Cl} (h:a7T c):c.keys.length≤1000∧c.p8.length≤1000∧c.items.length≤1000∧c.bytes.length≤4000:=by
 obtain ⟨-, -,k,b,q1,q2,q3,mx,a,m1,m2,m3,he,hb,h1,h2,h3⟩:=h
 simp only [j6,List.cons.injEq,PV.int.injEq,PV.str.injEq,true_and] at he
 obtain ⟨-,e2,e3,e4,e5, -⟩:=he
 subst e2 e3 e4 e5
 exact ⟨b5D h2,b5D h3,b5D h1,hb.1⟩
theorem a1P.hi {h:List Cl} (t:a1P h):HI 1000 h:=by
 have hok:=t.ok
 have hl:=t.len
 obtain ⟨h4,h5,h10⟩:=c2X t
 exact ⟨⟨h10,hl⟩,h4,fun j a b=>⟨_,h5 j a b,rfl⟩,fun c hc=>(hok c hc).lens,fun c hc=>(hok c hc).shape,fun c hc=>(hok c hc).2.1⟩
theorem c3a {h:List Cl} {o:Ob} (hn:o.n<9223372036854775808) (hf:fits h o) (hk:(i3 h o).2=0):fits h (i3 h o).1∧i3 h (i3 h o).1=((i3 h o).1,0)∧(i3 h o).1.kind≠0∧(i3 h o).1.n<9223372036854775808:=by
 have nm:∀ s:List UInt8,s.length≤100→fits h (W4 s)∧i3 h (W4 s)=(W4 s,0)∧(W4 s).kind≠0∧(W4 s).n<9223372036854775808:=fun s hs=>⟨⟨(G7 s false).2 hs,fun hx=>absurd rfl hx⟩,c1f hs,by simp [W4],by simp [W4]⟩
 have pl:∀ a:Ob,fits h a→a.kind≠6→a.kind≠0→i3 h a=(a.key,0):=by
  intro a ha h6 h0
  unfold i3
  rw [if_neg (Classical.not_not.2 ha),if_neg h6,if_neg h0]
 by_cases h6:o.kind=6
 ·unfold i3 at hk ⊢
  rw [if_neg (Classical.not_not.2 hf),if_pos h6] at*
  by_cases hl:100<(sub h o).length
  ·rw [if_pos hl] at hk;cases hk
  ·rw [if_neg hl]
   have:=nm (sub h o) (by omega)
   unfold i3 at this
   exact this
 ·have h0:o.kind≠0:=by
   intro h0
   unfold i3 at hk
   rw [if_neg (Classical.not_not.2 hf),if_neg h6,if_pos h0] at hk
   cases hk
  rw [pl o hf h6 h0]
  dsimp only
  by_cases hr:o.kind=4∧o.n.tmod 65536=0
  ·have e:o.key=⟨3,false,o.n.tdiv 65536,[],0,0,0⟩:=by unfold Ob.key;rw [if_pos hr]
   obtain ⟨-,la,ua⟩:=b7M hf.1 (.inr hr.1)
   have hb:=a5K la ua
   have:=tdm hr.2
   have ff:fits h ⟨3,false,o.n.tdiv 65536,[],0,0,0⟩:=fits_int (by omega) (by omega) false
   rw [e]
   refine ⟨ff,?_,by simp,by dsimp only;omega⟩
   rw [pl _ ff (by simp) (by simp)]
   simp [Ob.key]
  ·have e:o.key={o with exec:=false}:=by unfold Ob.key;rw [if_neg hr]
   have ff:fits h {o with exec:=false}:=hf
   rw [e]
   refine ⟨ff,?_,h0,?_⟩
   ·rw [pl _ ff h6 h0]
    unfold Ob.key
    dsimp only
    rw [if_neg hr]
   ·exact hn
theorem b4i {c c':Cl} {k v:Ob} (hp:X7 c k v=some c'):c'.kind=c.kind∧c'.bytes=c.bytes∧c'.items=c.items∧c'.keys.length≤c.keys.length+1∧c'.p8.length≤c.p8.length+1∧∀ o ∈ c'.p8,o ∈ c.p8∨o=v:=by
 unfold X7 at hp
 split at hp
 ·cases hp
  refine ⟨rfl,rfl,rfl,by dsimp only;omega,by dsimp only;rw [List.length_set];omega,fun o ho=>?_⟩
  exact List.mem_or_eq_of_mem_set ho
 ·split at hp
  ·cases hp
  ·cases hp
   refine ⟨rfl,rfl,rfl,by dsimp only;rw [List.length_append];simp,by dsimp only;rw [List.length_append];simp,fun o ho=>?_⟩
   dsimp only at ho
   rcases List.mem_append.1 ho with h | h
   ·exact .inl h
   ·exact .inr (by simpa using h)
theorem HI.put {n:Nat} {h:List Cl} (t:HI n h) {j:Nat} (h5:5≤j) (h9:j≤9) {c c':Cl} (hc:h[j]?=some c) {k v:Ob} (hp:X7 c k v=some c') (hv:v.n<9223372036854775808):HI (n+1) (h.set j c'):=by
 obtain ⟨p1,p2,p3,p4,p5,p6⟩:=b4i hp
 have hm:=List.mem_of_getElem? hc
 have hck:c.kind=3:=by
  obtain ⟨d,hd,hk⟩:=t.b4J j h5 h9
  rw [hc] at hd;cases hd;exact hk
 have mem:∀ x ∈ h.set j c',x ∈ h∨x=c':=fun x hx=>List.mem_or_eq_of_mem_set hx
 refine ⟨by rw [List.length_set];exact t.len,?_,fun i a b=>?_,fun x hx=>?_,fun x hx=>?_,fun x hx=>?_⟩
 ·rw [List.getElem?_set_ne (by omega)];exact t.cat
 ·by_cases hij:j=i
  ·subst hij
   rw [List.getElem?_set_self (by have:=(List.getElem?_eq_some_iff.1 hc).1;exact this)]
   exact ⟨c',rfl,by rw [p1];exact hck⟩
  ·rw [List.getElem?_set_ne hij];exact t.b4J i a b
 ·rcases mem x hx with hx | rfl
  ·obtain ⟨a,b,c,d⟩:=t.sz x hx;exact ⟨by omega,by omega,c,d⟩
  ·obtain ⟨a,b,cc,d⟩:=t.sz c hm
   exact ⟨by omega,by omega,by rw [p3];exact cc,by rw [p2];exact d⟩
 ·rcases mem x hx with hx | rfl
  ·exact t.shape x hx
  ·exact ⟨fun hk=>by omega,fun hk=>by omega⟩
 ·rcases mem x hx with hx | rfl
  ·exact t.p8 x hx
  ·intro o ho
   rcases p6 o ho with h | rfl
   ·exact t.p8 c hm o h
   ·exact hv
theorem b2q {c:Cl} {k v:Ob} (h:look c k=some v):v ∈ c.p8:=by
 unfold look at h
 split at h
 ·cases h
 ·exact List.mem_of_getElem? h
theorem HI.c4A {n:Nat} {h:List Cl} (t:HI n h):N2 h a0o [9]=0∧cellAt h a0o=a7R:=a2U (j:=4) (by decide) (by decide) t.cat rfl
theorem HI.b7G {n:Nat} {h:List Cl} (t:HI n h) {c:Ob} (hr:T7 h c):∃ j:Nat,5≤j∧j≤9∧(look (cellAt h a0o) c).getD A2=dO j:=by
 obtain ⟨h1, -⟩:=hr
 rw [t.c4A.2] at*
 cases hl:look a7R c with
 | none=>rw [hl] at h1;cases h1
 | some v=>
   have hm:=b2q hl
   simp only [a7R,dct,List.mem_cons,List.not_mem_nil,or_false] at hm
   rcases hm with rfl | rfl | rfl | rfl | rfl
   ·exact ⟨5,by decide,by decide,rfl⟩
   ·exact ⟨6,by decide,by decide,rfl⟩
   ·exact ⟨7,by decide,by decide,rfl⟩
   ·exact ⟨8,by decide,by decide,rfl⟩
   ·exact ⟨9,by decide,by decide,rfl⟩
theorem HI.b8n {n:Nat} {h:List Cl} (t:HI n h) {j:Nat} (h5:5≤j) (h9:j≤9):N2 h (dO j) [9]=0∧∃ c,h[j]?=some c∧cellAt h (dO j)=c:=by
 obtain ⟨c,hc,hk⟩:=t.b4J j h5 h9
 have:=a2U (h:=h) (j:=(j:Int)) (by omega) (by omega) (by simpa using hc) hk
 exact ⟨this.1,c,hc,this.2⟩
theorem HI.b7k {n:Nat} {h:List Cl} (t:HI n h) (c:Ob):(a4k h c=0↔T7 h c)∧(¬ T7 h c→a4k h c=24):=by
 unfold a4k T7
 have:=t.c4A.1
 constructor
 ·constructor
  ·intro h
   split at h
   ·rename_i hx;exact hx.2
   ·cases h
  ·intro h;rw [if_pos ⟨this,h⟩]
 ·intro h;rw [if_neg (fun hx=>h hx.2)]
end Go.Ab.Td
namespace Go.Ab.Td
set_option maxRecDepth 100000
set_option maxRecDepth 100000
open Go Go.Ab
variable {P:Program}
set_option linter.unusedSimpArgs false
attribute [local irreducible] g8
set_option maxHeartbeats 1000000 in
theorem b3x (C:Laid P) (s:C3) (k i c d:Ob) (n:Int) (hs:nOk s) (hd:d.n<9223372036854775808) (he:a5S s.heap d k≠0):l8 P G q8 [aS s,.agg (a5Q k i c d n)] [] (.p7 [aS s,pI (a5S s.heap d k)]):=by
 refine j3 C (I4 C) rfl ?_
 repeat' ((conv=>whnf);first | (with_reducible refine sC (by kernel_rfl) ?_) | ((with_reducible refine sB ?_);first | refine oT ?_ | refine oF ?_ | (refine Or.inr (Or.inr ⟨fun hsp=>?_,fun hsp=>?_⟩) <;>(try simp only [nm] at hsp) <;>try subst hsp)) | ((with_reducible refine x4 ?_);first | refine oT ?_ | refine oF ?_ | (refine Or.inr (Or.inr ⟨fun hsp=>?_,fun hsp=>?_⟩) <;>(try simp only [nm] at hsp) <;>try subst hsp)) | ((with_reducible refine x5 ?_);first | refine oT ?_ | refine oF ?_ | (refine Or.inr (Or.inr ⟨fun hsp=>?_,fun hsp=>?_⟩) <;>(try simp only [nm] at hsp) <;>try subst hsp)) | ((refine sP (by rfl) ?_);first | refine oT ?_ | refine oF ?_ | (refine Or.inr (Or.inr ⟨fun hsp=>?_,fun hsp=>?_⟩) <;>(try simp only [nm] at hsp) <;>try subst hsp)) | refine ⟨_,_,D5 C s d k hs hd,?_⟩ | fail)
 all_goals (conv=>whnf)
 all_goals (exact PV.le.refl _)
set_option maxHeartbeats 1000000 in
theorem b9I (C:Laid P) (s:C3) (k i c d:Ob) (n:Int) (hs:nOk s) (hd:d.n<9223372036854775808) (h0:1≤n) (h1:n≤s.ops.length) (h2:s.ops.length≤100) (he:a5S s.heap d k=0):l8 P G q8 [aS s,.agg (a5Q k i c d n)] [] (.p7 [aS {s with ops:=s.ops.take (s.ops.length - n.toNat)++[b4L s.heap d k],heap:=s.heap},pI 0]):=by
 refine j3 C (I4 C) rfl ?_
 repeat' ((conv=>whnf);first | (with_reducible refine sC (by kernel_rfl) ?_) | ((with_reducible refine sB ?_);first | refine oT ?_ | refine oF ?_ | (refine Or.inr (Or.inr ⟨fun hsp=>?_,fun hsp=>?_⟩) <;>(try simp only [nm] at hsp) <;>try subst hsp)) | ((with_reducible refine x4 ?_);first | refine oT ?_ | refine oF ?_ | (refine Or.inr (Or.inr ⟨fun hsp=>?_,fun hsp=>?_⟩) <;>(try simp only [nm] at hsp) <;>try subst hsp)) | ((with_reducible refine x5 ?_);first | refine oT ?_ | refine oF ?_ | (refine Or.inr (Or.inr ⟨fun hsp=>?_,fun hsp=>?_⟩) <;>(try simp only [nm] at hsp) <;>try subst hsp)) | ((refine sP (by rfl) ?_);first | refine oT ?_ | refine oF ?_ | (refine Or.inr (Or.inr ⟨fun hsp=>?_,fun hsp=>?_⟩) <;>(try simp only [nm] at hsp) <;>try subst hsp)) | refine ⟨_,_,D5 C s d k hs hd,?_⟩ | refine ⟨_,_,s8 C s k i c d n s.heap [b4L s.heap d k] (by omega) (by omega) (by omega) (by simp only [List.length_cons,List.length_nil];omega),?_⟩ | fail)
 all_goals (conv=>whnf)
 all_goals (exact PV.le.refl _)
set_option maxHeartbeats 1000000 in
theorem b5u (C:Laid P) (s:C3) (k i c d:Ob) (n:Int) (hs:nOk s) (hd:d.n<9223372036854775808) (h0:1≤n) (h1:n≤s.ops.length) (h2:s.ops.length≤100) (he:a5S s.heap d k≠0):l8 P G r6 [aS s,.agg (a5Q k i c d n)] [] (.p7 [aS {s with ops:=s.ops.take (s.ops.length - n.toNat)++[⟨2,false,0,[],0,0,0⟩],heap:=s.heap},pI 0]):=by
 refine j3 C (I6 C) rfl ?_
 repeat' ((conv=>whnf);first | (with_reducible refine sC (by kernel_rfl) ?_) | ((with_reducible refine sB ?_);first | refine oT ?_ | refine oF ?_ | (refine Or.inr (Or.inr ⟨fun hsp=>?_,fun hsp=>?_⟩) <;>(try simp only [nm] at hsp) <;>try subst hsp)) | ((with_reducible refine x4 ?_);first | refine oT ?_ | refine oF ?_ | (refine Or.inr (Or.inr ⟨fun hsp=>?_,fun hsp=>?_⟩) <;>(try simp only [nm] at hsp) <;>try subst hsp)) | ((with_reducible refine x5 ?_);first | refine oT ?_ | refine oF ?_ | (refine Or.inr (Or.inr ⟨fun hsp=>?_,fun hsp=>?_⟩) <;>(try simp only [nm] at hsp) <;>try subst hsp)) | ((refine sP (by rfl) ?_);first | refine oT ?_ | refine oF ?_ | (refine Or.inr (Or.inr ⟨fun hsp=>?_,fun hsp=>?_⟩) <;>(try simp only [nm] at hsp) <;>try subst hsp)) | refine ⟨_,_,D5 C s d k hs hd,?_⟩ | refine ⟨_,_,s8 C s k i c d n s.heap [⟨2,false,0,[],0,0,0⟩] (by omega) (by omega) (by omega) (by simp only [List.length_cons,List.length_nil];omega),?_⟩ | fail)
 all_goals (conv=>whnf)
 all_goals (exact PV.le.refl _)
set_option maxHeartbeats 1000000 in
theorem b3G (C:Laid P) (s:C3) (k i c d:Ob) (n:Int) (hs:nOk s) (hd:d.n<9223372036854775808) (h0:1≤n) (h1:n≤s.ops.length) (h2:s.ops.length≤100) (he:a5S s.heap d k=0):l8 P G r6 [aS s,.agg (a5Q k i c d n)] [] (.p7 [aS {s with ops:=s.ops.take (s.ops.length - n.toNat)++[⟨2,false,1,[],0,0,0⟩],heap:=s.heap},pI 0]):=by
 refine j3 C (I6 C) rfl ?_
 repeat' ((conv=>whnf);first | (with_reducible refine sC (by kernel_rfl) ?_) | ((with_reducible refine sB ?_);first | refine oT ?_ | refine oF ?_ | (refine Or.inr (Or.inr ⟨fun hsp=>?_,fun hsp=>?_⟩) <;>(try simp only [nm] at hsp) <;>try subst hsp)) | ((with_reducible refine x4 ?_);first | refine oT ?_ | refine oF ?_ | (refine Or.inr (Or.inr ⟨fun hsp=>?_,fun hsp=>?_⟩) <;>(try simp only [nm] at hsp) <;>try subst hsp)) | ((with_reducible refine x5 ?_);first | refine oT ?_ | refine oF ?_ | (refine Or.inr (Or.inr ⟨fun hsp=>?_,fun hsp=>?_⟩) <;>(try simp only [nm] at hsp) <;>try subst hsp)) | ((refine sP (by rfl) ?_);first | refine oT ?_ | refine oF ?_ | (refine Or.inr (Or.inr ⟨fun hsp=>?_,fun hsp=>?_⟩) <;>(try simp only [nm] at hsp) <;>try subst hsp)) | refine ⟨_,_,D5 C s d k hs hd,?_⟩ | refine ⟨_,_,s8 C s k i c d n s.heap [⟨2,false,1,[],0,0,0⟩] (by omega) (by omega) (by omega) (by simp only [List.length_cons,List.length_nil];omega),?_⟩ | fail)
 all_goals (conv=>whnf)
 all_goals (exact PV.le.refl _)
end Go.Ab.Td

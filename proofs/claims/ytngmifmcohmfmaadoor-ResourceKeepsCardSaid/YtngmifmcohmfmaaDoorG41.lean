/- A part of the proof: the texts TdSl. Under: nothing. -/
import Derived.Test.YtngmifmcohmfmaaDoorG37
import Derived.Test.YtngmifmcohmfmaaDoorG38
import Derived.Test.YtngmifmcohmfmaaDoorG39
import Derived.Test.YtngmifmcohmfmaaDoorG35
import Derived.Test.YtngmifmcohmfmaaDoorG40
set_option linter.unusedVariables false
namespace Go.Ab.Td
set_option maxRecDepth 100000
set_option maxRecDepth 100000
open Go Go.Ab
variable {P:Program}
set_option linter.unusedSimpArgs false
structure RH (h:List Cl):Prop where
 len:10≤h.length∧h.length≤20
 cat:h[4]?=some a4L
 b5k:∀ j:Nat,5≤j→j≤9→∃ c,h[j]?=some c∧c.kind=3
 valid:a5r h
 nc:∀ c ∈ h,nC c
theorem a5s.rh {h:List Cl} (t:a5s h):RH h:=
 ⟨t.1.hi.len,t.1.hi.cat,t.1.hi.b5k,t.valid,fun c hc=>a8N.nC (t.1.ok c hc)⟩
theorem RH.sm {h:List Cl} (t:RH h):small h:=a9J t.valid (by have:=t.len;omega)
theorem RH.set {h:List Cl} (t:RH h) {j:Nat} (h5:5≤j) (h9:j≤9) {c c':Cl} (hc:h[j]?=some c) (hk:c'.kind=3) (hs:c'.size=c.size) (hr:T5 h c') (hn:nC c'):RH (h.set j c'):=by
 obtain ⟨d,hd,hk2⟩:=t.b5k j h5 h9
 rw [hc] at hd
 cases hd
 refine ⟨by rw [List.length_set];exact t.len,?_,fun i a b=>?_,b8s t.valid hc (by omega) (.inl hk) hs hr,c3x t.nc hn j⟩
 ·rw [List.getElem?_set_ne (by omega)];exact t.cat
 ·by_cases hij:j=i
  ·subst hij
   rw [List.getElem?_set_self (List.getElem?_eq_some_iff.1 hc).1]
   exact ⟨c',rfl,hk⟩
  ·rw [List.getElem?_set_ne hij];exact t.b5k i a b
theorem RH.dic {h:List Cl} (t:RH h) {cs:List UInt8} {j:Int} (hl:look a4L (D1 cs)=some (dO j)) (h5:5≤j) (h9:j≤9):
 a7n h (D1 cs)=0∧a4b h (D1 cs)=dO j∧R6 h (dO j) [9]=0∧∃ c,h[j.toNat]?=some c∧cellAt h (dO j)=c∧c.kind=3∧T5 h c∧nC c:=by
 obtain ⟨v1,v2⟩:=b2J (j:=4) (by decide) (by decide) t.cat rfl
 have e1:a7n h (D1 cs)=0:=by
  unfold a7n
  rw [if_pos ⟨v1,by rw [show cellAt h b0y=a4L from v2,hl];exact ⟨rfl,rfl⟩⟩]
 obtain ⟨c,hc,hk⟩:=t.b5k j.toNat (by omega) (by omega)
 obtain ⟨w1,w2⟩:=b2J (j:=j) (by omega) (by omega) hc hk
 refine ⟨e1,?_,w1,c,hc,w2,hk,t.valid.1 c (List.mem_of_getElem? hc),t.nc c (List.mem_of_getElem? hc)⟩
 unfold a4b
 rw [if_pos e1,show cellAt h b0y=a4L from v2,hl]
 rfl
theorem RH.find {h:List Cl} (t:RH h) {cs:List UInt8} {j:Int} (hl:look a4L (D1 cs)=some (dO j)) (h5:5≤j) (h9:j≤9) (k:Ob):
 rfO h cs k=(look (cellAt h (dO j)) k).getD L5∧rfE h cs k=if (look (cellAt h (dO j)) k).isSome=true then 0 else 40:=by
 obtain ⟨e1,e2,e3, -⟩:=t.dic hl h5 h9
 unfold rfO rfE a9N a9M
 rw [if_pos e1,if_pos e1,e2,if_neg (by rw [e3];simp),if_neg (by rw [e3];simp)]
 exact ⟨rfl,rfl⟩
theorem a6t {h:List Cl} {j:Nat} {c c':Cl} (hc:h[j]?=some c) (hk:c.kind=3) (hk':c'.kind=3) (o:Ob):fits (h.set j c') o↔fits h o:=by
 refine ⟨fun hf=>?_,fun hf=>a7Z hc (by omega) (.inl hk') hf⟩
 have hl:=(List.getElem?_eq_some_iff.1 hc).1
 have e:(h.set j c').set j c=h:=by
  apply List.ext_getElem?
  intro i
  by_cases hi:i=j
  ·subst hi;rw [List.getElem?_set_self (by rw [List.length_set];exact hl),hc]
  ·rw [List.getElem?_set_ne (fun x=>hi x.symm),List.getElem?_set_ne (fun x=>hi x.symm)]
 rw [← e]
 exact a7Z (List.getElem?_set_self hl) (by omega) (.inl hk) hf
theorem b8V {h:List Cl} {o:Ob} (hf:fits h o) (hk:I2 o.kind≠0):∃ c,h[o.ref.toNat]?=some c∧cellAt h o=c∧c.kind=I2 o.kind∧True:=by
 obtain ⟨h1,h2, -⟩:=b2o hf hk
 exact ⟨_,h1,rfl,h2,trivial⟩
theorem b4p {h:List Cl} {j:Nat} {c c':Cl} (hc:h[j]?=some c) (hk:c.kind=3) (hk':c'.kind=3) (o:Ob):o0 (h.set j c') o=o0 h o:=by
 have hi:fits (h.set j c') o=fits h o:=propext (a6t hc hk hk' o)
 unfold o0
 rw [hi]
 by_cases hf:fits h o
 ·by_cases h6:o.kind=6
  ·have e:sub (h.set j c') o=sub h o:=by
    obtain ⟨d,hd,ed,hdk, -⟩:=b8V hf (by rw [h6];decide)
    rw [h6] at hdk
    have hne:j≠o.ref.toNat:=by
     intro x
     subst x
     rw [hc] at hd
     cases hd
     rw [hk] at hdk
     exact absurd hdk (by decide)
    unfold sub cellAt
    rw [List.getElem?_set_ne hne]
   rw [e]
  ·simp [h6]
 ·simp [hf]
structure RA (s:Q0) (key:Ob) (cs:List UInt8) (j:Int):Prop where
 rh:RH s.heap
 kn:key.n<9223372036854775808
 kf:fits s.heap key
 cl:cs.length≤100
 j5:5≤j
 j9:j≤9
 lk:look a4L (D1 cs)=some (dO j)
abbrev S3 (s:Q0) (key o:Ob) (cs:List UInt8):Q0:={s with ops:=[key,o,D1 cs]}
abbrev S2 (s:Q0) (key:Ob) (cs:List UInt8):Q0:={s with ops:=[key,D1 cs]}
section
variable {s:Q0} {key o:Ob} {cs:List UInt8} {j:Int} (a:RA s key cs j) (C:Laid P)
include a
theorem RA.n3 (ho:o.n<9223372036854775808):nOk (S3 s key o cs):=by
 refine ⟨a.rh.sm,by simp [S3],fun x hx=>?_,fun c hc=>(a.rh.nc c hc).2.2⟩
 simp only [S3,List.mem_cons,List.not_mem_nil,or_false] at hx
 rcases hx with rfl | rfl | rfl
 ·exact a.kn
 ·exact ho
 ·show (0:Int)<_;decide
theorem RA.n2:nOk (S2 s key cs):=by
 refine ⟨a.rh.sm,by simp [S2],fun x hx=>?_,fun c hc=>(a.rh.nc c hc).2.2⟩
 simp only [S2,List.mem_cons,List.not_mem_nil,or_false] at hx
 rcases hx with rfl | rfl
 ·exact a.kn
 ·show (0:Int)<_;decide
theorem RA.asks {S:Q0} {n:Int} (hS:S.heap=s.heap) (h0:opA S n 0=key) (h2:opA S n (n - 1)=D1 cs) (hl:¬ (S.ops.length:Int)<n):a6D S n=(o0 s.heap key).2:=by
 obtain ⟨e1, -⟩:=a.rh.dic a.lk a.j5 a.j9
 unfold a6D
 rw [if_neg hl,h0,h2,hS]
 by_cases k0:key.kind=0
 ·rw [if_pos (.inl k0)]
  unfold o0
  rw [if_neg (fun x=>x a.kf),if_neg (by omega),if_pos k0]
 ·rw [if_neg (by rintro (x | ⟨x, -⟩);exact k0 x;exact x rfl)]
  by_cases e:(o0 s.heap key).2≠0
  ·rw [if_pos e]
  ·rw [if_neg e,b3q a.cl,if_neg (by simp),e1]
   omega
theorem RA.c0C:a6D (S3 s key o cs) 3=(o0 s.heap key).2:=a.asks rfl rfl rfl (by simp [S3])
theorem RA.c6a:a6D (S2 s key cs) 2=(o0 s.heap key).2:=a.asks rfl rfl rfl (by simp [S2])
theorem RA.c6e:a3F (o0 (S3 s key o cs).heap (opA (S3 s key o cs) 3 0)).1 (opA (S3 s key o cs) 3 1) (o0 (S3 s key o cs).heap (opA (S3 s key o cs) 3 (3 - 1))).1 (a4b (S3 s key o cs).heap (o0 (S3 s key o cs).heap (opA (S3 s key o cs) 3 (3 - 1))).1) 3=a3F (o0 s.heap key).1 o (D1 cs) (dO j) 3:=by
 obtain ⟨-,e2, -⟩:=a.rh.dic a.lk a.j5 a.j9
 show a3F (o0 s.heap key).1 o (o0 s.heap (D1 cs)).1 (a4b s.heap (o0 s.heap (D1 cs)).1) 3=_
 rw [b3q a.cl]
 dsimp only
 rw [e2]
theorem RA.c6d:a3F (o0 (S2 s key cs).heap (opA (S2 s key cs) 2 0)).1 (opA (S2 s key cs) 2 1) (o0 (S2 s key cs).heap (opA (S2 s key cs) 2 (2 - 1))).1 (a4b (S2 s key cs).heap (o0 (S2 s key cs).heap (opA (S2 s key cs) 2 (2 - 1))).1) 2=a3F (o0 s.heap key).1 (D1 cs) (D1 cs) (dO j) 2:=by
 obtain ⟨-,e2, -⟩:=a.rh.dic a.lk a.j5 a.j9
 show a3F (o0 s.heap key).1 (D1 cs) (o0 s.heap (D1 cs)).1 (a4b s.heap (o0 s.heap (D1 cs)).1) 2=_
 rw [b3q a.cl]
 dsimp only
 rw [e2]
end
end Go.Ab.Td

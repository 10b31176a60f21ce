/- A part of the proof: the texts TdSl. Under: nothing. -/
import Derived.Test.YtomfaadmmchdcaaDoorG41
import Derived.Test.YtomfaadmmchdcaaDoorG37
set_option linter.unusedVariables false
namespace Go.Ab.Td
set_option maxRecDepth 100000
set_option maxRecDepth 100000
open Go Go.Ab
variable {P:Program}
set_option linter.unusedSimpArgs false
structure RH (h:List Cl):Prop where
 len:10≤h.length∧h.length≤20
 cat:h[4]?=some a7R
 b4J:∀ j:Nat,5≤j→j≤9→∃ c,h[j]?=some c∧c.kind=3
 valid:a8q h
 nc:∀ c ∈ h,nC c
theorem a2r.rh {h:List Cl} (t:a2r h):RH h:=
 ⟨t.1.hi.len,t.1.hi.cat,t.1.hi.b4J,t.valid,fun c hc=>a7T.nC (t.1.ok c hc)⟩
theorem RH.sm {h:List Cl} (t:RH h):small h:=b0Q t.valid (by have:=t.len;omega)
theorem RH.set {h:List Cl} (t:RH h) {j:Nat} (h5:5≤j) (h9:j≤9) {c c':Cl} (hc:h[j]?=some c) (hk:c'.kind=3) (hs:c'.size=c.size) (hr:W7 h c') (hn:nC c'):RH (h.set j c'):=by
 obtain ⟨d,hd,hk2⟩:=t.b4J j h5 h9
 rw [hc] at hd
 cases hd
 refine ⟨by rw [List.length_set];exact t.len,?_,fun i a b=>?_,b4r t.valid hc (by omega) (.inl hk) hs hr,c1p t.nc hn j⟩
 ·rw [List.getElem?_set_ne (by omega)];exact t.cat
 ·by_cases hij:j=i
  ·subst hij
   rw [List.getElem?_set_self (List.getElem?_eq_some_iff.1 hc).1]
   exact ⟨c',rfl,hk⟩
  ·rw [List.getElem?_set_ne hij];exact t.b4J i a b
theorem RH.dic {h:List Cl} (t:RH h) {cs:List UInt8} {j:Int} (hl:look a7R (W4 cs)=some (dO j)) (h5:5≤j) (h9:j≤9):
 a4k h (W4 cs)=0∧a7V h (W4 cs)=dO j∧N2 h (dO j) [9]=0∧∃ c,h[j.toNat]?=some c∧cellAt h (dO j)=c∧c.kind=3∧W7 h c∧nC c:=by
 obtain ⟨v1,v2⟩:=a2U (j:=4) (by decide) (by decide) t.cat rfl
 have e1:a4k h (W4 cs)=0:=by
  unfold a4k
  rw [if_pos ⟨v1,by rw [show cellAt h a0o=a7R from v2,hl];exact ⟨rfl,rfl⟩⟩]
 obtain ⟨c,hc,hk⟩:=t.b4J j.toNat (by omega) (by omega)
 obtain ⟨w1,w2⟩:=a2U (j:=j) (by omega) (by omega) hc hk
 refine ⟨e1,?_,w1,c,hc,w2,hk,t.valid.1 c (List.mem_of_getElem? hc),t.nc c (List.mem_of_getElem? hc)⟩
 unfold a7V
 rw [if_pos e1,show cellAt h a0o=a7R from v2,hl]
 rfl
theorem RH.find {h:List Cl} (t:RH h) {cs:List UInt8} {j:Int} (hl:look a7R (W4 cs)=some (dO j)) (h5:5≤j) (h9:j≤9) (k:Ob):
 rfO h cs k=(look (cellAt h (dO j)) k).getD A2∧rfE h cs k=if (look (cellAt h (dO j)) k).isSome=true then 0 else 40:=by
 obtain ⟨e1,e2,e3, -⟩:=t.dic hl h5 h9
 unfold rfO rfE b4L a5S
 rw [if_pos e1,if_pos e1,e2,if_neg (by rw [e3];simp),if_neg (by rw [e3];simp)]
 exact ⟨rfl,rfl⟩
structure RA (s:C3) (key:Ob) (cs:List UInt8) (j:Int):Prop where
 rh:RH s.heap
 kn:key.n<9223372036854775808
 kf:fits s.heap key
 cl:cs.length≤100
 j5:5≤j
 j9:j≤9
 lk:look a7R (W4 cs)=some (dO j)
abbrev S3 (s:C3) (key o:Ob) (cs:List UInt8):C3:={s with ops:=[key,o,W4 cs]}
abbrev S2 (s:C3) (key:Ob) (cs:List UInt8):C3:={s with ops:=[key,W4 cs]}
section
variable {s:C3} {key o:Ob} {cs:List UInt8} {j:Int} (a:RA s key cs j) (C:Laid P)
include a
theorem RA.n3 (ho:o.n<9223372036854775808):nOk (S3 s key o cs):=by
 refine ⟨a.rh.sm,by simp [S3],fun x hx=>?_,fun c hc=>(a.rh.nc c hc).2.2⟩
 simp only [S3,List.mem_cons,List.not_mem_nil,or_false] at hx
 rcases hx with rfl | rfl | rfl
 ·exact a.kn
 ·exact ho
 ·show (0:Int)<_;decide
theorem RA.n2:nOk (S2 s key cs):=by
 refine ⟨a.rh.sm,by simp [S2],fun x hx=>?_,fun c hc=>(a.rh.nc c hc).2.2⟩
 simp only [S2,List.mem_cons,List.not_mem_nil,or_false] at hx
 rcases hx with rfl | rfl
 ·exact a.kn
 ·show (0:Int)<_;decide
theorem RA.asks {S:C3} {n:Int} (hS:S.heap=s.heap) (h0:opA S n 0=key) (h2:opA S n (n - 1)=W4 cs) (hl:¬ (S.ops.length:Int)<n):W5 S n=(i3 s.heap key).2:=by
 obtain ⟨e1, -⟩:=a.rh.dic a.lk a.j5 a.j9
 unfold W5
 rw [if_neg hl,h0,h2,hS]
 by_cases k0:key.kind=0
 ·rw [if_pos (.inl k0)]
  unfold i3
  rw [if_neg (fun x=>x a.kf),if_neg (by omega),if_pos k0]
 ·rw [if_neg (by rintro (x | ⟨x, -⟩);exact k0 x;exact x rfl)]
  by_cases e:(i3 s.heap key).2≠0
  ·rw [if_pos e]
  ·rw [if_neg e,c1f a.cl,if_neg (by simp),e1]
   omega
end
end Go.Ab.Td

/- A part of the proof: the texts TdSk, TdO, TdFj, TdFk, TdSl, TdZm, TdW16. Under: nothing. -/
import Derived.Test.YtomfaadmmchdcaaGreatDoorG21
import Derived.Test.YtomfaadmmchdcaaGreatDoorG24
import Derived.Test.YtomfaadmmchdcaaGreatDoorG22
import Derived.Test.YtomfaadmmchdcaaGreatDoorG32
import Derived.Test.YtomfaadmmchdcaaGreatDoorG25
import Derived.Test.YtomfaadmmchdcaaGreatDoorG26
import Derived.Test.YtomfaadmmchdcaaGreatDoorG27
import Derived.Test.YtomfaadmmchdcaaGreatDoorG31
import Derived.Test.YtomfaadmmchdcaaGreatDoorG07
import Derived.Test.YtomfaadmmchdcaaGreatDoorG05
import Derived.KernelRfl
set_option linter.unusedVariables false
namespace Go.Ab.Td
set_option maxRecDepth 100000
set_option maxRecDepth 100000
open Go Go.Ab
variable {P:Program}
set_option linter.unusedSimpArgs false
attribute [local irreducible] e9
set_option maxHeartbeats 1000000 in
theorem a4A (C:Laid P) (l:List Ob) (hl:l.length≤1000000):l3 P G m6 [.sl 7 (List.map i4 l),.sl 7 (List.map i4 l)] [] (.bool true):=by
 refine k8 C (a0g C) rfl ?_
 repeat' ((conv=>whnf);first | (with_reducible refine sC (by kernel_rfl) ?_) | ((first | (with_reducible first | refine sB ?_ | refine z7 ?_ | refine z8 ?_) | refine sP (by rfl) ?_);first | refine Or.inl ⟨by first | assumption | (simp only [nm,beq_self_eq_true,Bool.and_self,Bool.and_true,List.length_map];first | done | assumption | omega),?_⟩ | refine Or.inr (Or.inl ⟨by first | assumption | (simp only [nm,beq_self_eq_true,Bool.and_self,Bool.and_true,List.length_map];first | done | assumption | omega),?_⟩) | (refine Or.inr (Or.inr ⟨fun hsp=>?_,fun hsp=>?_⟩) <;>(try simp only [nm,beq_self_eq_true,Bool.and_self,Bool.and_true,List.length_map] at hsp) <;>try subst hsp)) | fail)
 all_goals (conv=>whnf)
 intro X hX hW
 refine a3T hX (fun st (i:Nat)=>st.upd [(13,.pv (pI (i:Int)))] []) (fun i k=>i+k=l.length) 0 l.length (by (conv=>whnf);first | done | rfl) (by omega) ?_
 intro m i ih hI
 rcases a3I l i with ⟨x,hlt,hx⟩ | hge
 ·have hrow:=K4 (f:=i4) hx
  repeat' ((conv=>whnf);first | (with_reducible refine sC (by kernel_rfl) ?_) | ((first | (with_reducible first | refine sB ?_ | refine z7 ?_ | refine z8 ?_) | refine sP (by rfl) ?_);first | refine Or.inl ⟨by first | assumption | (simp only [nm,beq_self_eq_true,Bool.and_self,Bool.and_true,List.length_map];first | done | assumption | omega),?_⟩ | refine Or.inr (Or.inl ⟨by first | assumption | (simp only [nm,beq_self_eq_true,Bool.and_self,Bool.and_true,List.length_map];first | done | assumption | omega),?_⟩) | (refine Or.inr (Or.inr ⟨fun hsp=>?_,fun hsp=>?_⟩) <;>(try simp only [nm,beq_self_eq_true,Bool.and_self,Bool.and_true,List.length_map] at hsp) <;>try subst hsp)) | refine sS (e7 (by rfl) (by rfl) (by omega) hrow) ?_ | fail)
  all_goals (conv=>whnf)
  all_goals (refine ih (m - 1) (i+1) _ (by omega) (by omega) (by (conv=>whnf);first | done | rfl | (simp (disch:=omega) only [P9])))
 ·repeat' ((conv=>whnf);first | (with_reducible refine sC (by kernel_rfl) ?_) | ((first | (with_reducible first | refine sB ?_ | refine z7 ?_ | refine z8 ?_) | refine sP (by rfl) ?_);first | refine Or.inl ⟨by first | assumption | (simp only [nm,beq_self_eq_true,Bool.and_self,Bool.and_true,List.length_map];first | done | assumption | omega),?_⟩ | refine Or.inr (Or.inl ⟨by first | assumption | (simp only [nm,beq_self_eq_true,Bool.and_self,Bool.and_true,List.length_map];first | done | assumption | omega),?_⟩) | (refine Or.inr (Or.inr ⟨fun hsp=>?_,fun hsp=>?_⟩) <;>(try simp only [nm,beq_self_eq_true,Bool.and_self,Bool.and_true,List.length_map] at hsp) <;>try subst hsp)) | fail)
  all_goals (conv=>whnf)
  all_goals (exact PV.le.refl _)
end Go.Ab.Td
namespace Go.Ab.Td
set_option maxRecDepth 100000
open Go Go.Ab
variable {P:Program}
set_option linter.unusedSimpArgs false
attribute [local irreducible] e9
end Go.Ab.Td
namespace Go.Ab.Td
set_option maxRecDepth 100000
open Go Go.Ab
variable {P:Program}
set_option linter.unusedSimpArgs false
attribute [local irreducible] e9
end Go.Ab.Td
namespace Go.Ab.Td
set_option maxRecDepth 100000
open Go Go.Ab
variable {P:Program}
set_option linter.unusedSimpArgs false
attribute [local irreducible] e9
end Go.Ab.Td
namespace Go.Ab.Td
set_option maxRecDepth 100000
set_option maxRecDepth 100000
open Go Go.Ab
variable {P:Program}
set_option linter.unusedSimpArgs false
structure RH (h:List Cl):Prop where
 len:10≤h.length∧h.length≤20
 cat:h[4]?=some b4e
 b6u:∀ j:Nat,5≤j→j≤9→∃ c,h[j]?=some c∧c.kind=3
 valid:a5S h
 nc:∀ c ∈ h,nC c
theorem a1f.rh {h:List Cl} (t:a1f h):RH h:=
 ⟨t.1.hi.len,t.1.hi.cat,t.1.hi.b6u,t.valid,fun c hc=>a7l.nC (t.1.ok c hc)⟩
theorem RH.sm {h:List Cl} (t:RH h):small h:=a6T t.valid (by have:=t.len;omega)
theorem RH.set {h:List Cl} (t:RH h) {j:Nat} (h5:5≤j) (h9:j≤9) {c c':Cl} (hc:h[j]?=some c) (hk:c'.kind=3) (hs:c'.size=c.size) (hr:S7 h c') (hn:nC c'):RH (h.set j c'):=by
 obtain ⟨d,hd,hk2⟩:=t.b6u j h5 h9
 rw [hc] at hd
 cases hd
 refine ⟨by rw [List.length_set];exact t.len,?_,fun i a b=>?_,a7j t.valid hc (by omega) (.inl hk) hs hr,b4A t.nc hn j⟩
 ·rw [List.getElem?_set_ne (by omega)];exact t.cat
 ·by_cases hij:j=i
  ·subst hij
   rw [List.getElem?_set_self (List.getElem?_eq_some_iff.1 hc).1]
   exact ⟨c',rfl,hk⟩
  ·rw [List.getElem?_set_ne hij];exact t.b6u i a b
theorem RH.dic {h:List Cl} (t:RH h) {cs:List UInt8} {j:Int} (hl:look b4e (nmO cs)=some (dO j)) (h5:5≤j) (h9:j≤9):
 b5h h (nmO cs)=0∧c2y h (nmO cs)=dO j∧U0 h (dO j) [9]=0∧∃ c,h[j.toNat]?=some c∧cellAt h (dO j)=c∧c.kind=3∧S7 h c∧nC c:=by
 obtain ⟨v1,v2⟩:=b3T (j:=4) (by decide) (by decide) t.cat rfl
 have e1:b5h h (nmO cs)=0:=by
  unfold b5h
  rw [if_pos ⟨v1,by rw [show cellAt h b8o=b4e from v2,hl];exact ⟨rfl,rfl⟩⟩]
 obtain ⟨c,hc,hk⟩:=t.b6u j.toNat (by omega) (by omega)
 obtain ⟨w1,w2⟩:=b3T (j:=j) (by omega) (by omega) hc hk
 refine ⟨e1,?_,w1,c,hc,w2,hk,t.valid.1 c (List.mem_of_getElem? hc),t.nc c (List.mem_of_getElem? hc)⟩
 unfold c2y
 rw [if_pos e1,show cellAt h b8o=b4e from v2,hl]
 rfl
theorem RH.find {h:List Cl} (t:RH h) {cs:List UInt8} {j:Int} (hl:look b4e (nmO cs)=some (dO j)) (h5:5≤j) (h9:j≤9) (k:Ob):
 rfO h cs k=(look (cellAt h (dO j)) k).getD V8∧rfE h cs k=if (look (cellAt h (dO j)) k).isSome=true then 0 else 40:=by
 obtain ⟨e1,e2,e3, -⟩:=t.dic hl h5 h9
 unfold rfO rfE c5E c5D
 rw [if_pos e1,if_pos e1,e2,if_neg (by rw [e3];simp),if_neg (by rw [e3];simp)]
 exact ⟨rfl,rfl⟩
theorem b8x {h:List Cl} {j:Nat} {c c':Cl} (hc:h[j]?=some c) (hk:c.kind=3) (hk':c'.kind=3) (o:Ob):fits (h.set j c') o↔fits h o:=by
 refine ⟨fun hf=>?_,fun hf=>a8T hc (by omega) (.inl hk') hf⟩
 have hl:=(List.getElem?_eq_some_iff.1 hc).1
 have e:(h.set j c').set j c=h:=by
  apply List.ext_getElem?
  intro i
  by_cases hi:i=j
  ·subst hi;rw [List.getElem?_set_self (by rw [List.length_set];exact hl),hc]
  ·rw [List.getElem?_set_ne (fun x=>hi x.symm),List.getElem?_set_ne (fun x=>hi x.symm)]
 rw [← e]
 exact a8T (List.getElem?_set_self hl) (by omega) (.inl hk) hf
theorem c0h {h:List Cl} {o:Ob} (hf:fits h o) (hk:E8 o.kind≠0):∃ c,h[o.ref.toNat]?=some c∧cellAt h o=c∧c.kind=E8 o.kind∧True:=by
 obtain ⟨h1,h2, -⟩:=a9V hf hk
 exact ⟨_,h1,rfl,h2,trivial⟩
theorem c0l {h:List Cl} {j:Nat} {c c':Cl} (hc:h[j]?=some c) (hk:c.kind=3) (hk':c'.kind=3) (o:Ob):n4 (h.set j c') o=n4 h o:=by
 have hi:fits (h.set j c') o=fits h o:=propext (b8x hc hk hk' o)
 unfold n4
 rw [hi]
 by_cases hf:fits h o
 ·by_cases h6:o.kind=6
  ·have e:sub (h.set j c') o=sub h o:=by
    obtain ⟨d,hd,ed,hdk, -⟩:=c0h hf (by rw [h6];decide)
    rw [h6] at hdk
    have hne:j≠o.ref.toNat:=by
     intro x
     subst x
     rw [hc] at hd
     cases hd
     rw [hk] at hdk
     exact absurd hdk (by decide)
    unfold sub cellAt
    rw [List.getElem?_set_ne hne]
   rw [e]
  ·simp [h6]
 ·simp [hf]
structure RA (s:B8) (key:Ob) (cs:List UInt8) (j:Int):Prop where
 rh:RH s.heap
 kn:key.n<9223372036854775808
 kf:fits s.heap key
 cl:cs.length≤100
 j5:5≤j
 j9:j≤9
 lk:look b4e (nmO cs)=some (dO j)
abbrev S3 (s:B8) (key o:Ob) (cs:List UInt8):B8:={s with ops:=[key,o,nmO cs]}
abbrev S2 (s:B8) (key:Ob) (cs:List UInt8):B8:={s with ops:=[key,nmO cs]}
section
variable {s:B8} {key o:Ob} {cs:List UInt8} {j:Int} (a:RA s key cs j) (C:Laid P)
include a
theorem RA.n3 (ho:o.n<9223372036854775808):nOk (S3 s key o cs):=by
 refine ⟨a.rh.sm,by simp [S3],fun x hx=>?_,fun c hc=>(a.rh.nc c hc).2.2⟩
 simp only [S3,List.mem_cons,List.not_mem_nil,or_false] at hx
 rcases hx with rfl | rfl | rfl
 ·exact a.kn
 ·exact ho
 ·show (0:Int)<_;decide
theorem RA.n2:nOk (S2 s key cs):=by
 refine ⟨a.rh.sm,by simp [S2],fun x hx=>?_,fun c hc=>(a.rh.nc c hc).2.2⟩
 simp only [S2,List.mem_cons,List.not_mem_nil,or_false] at hx
 rcases hx with rfl | rfl
 ·exact a.kn
 ·show (0:Int)<_;decide
theorem RA.asks {S:B8} {n:Int} (hS:S.heap=s.heap) (h0:opA S n 0=key) (h2:opA S n (n - 1)=nmO cs) (hl:¬ (S.ops.length:Int)<n):c5t S n=(n4 s.heap key).2:=by
 obtain ⟨e1, -⟩:=a.rh.dic a.lk a.j5 a.j9
 unfold c5t
 rw [if_neg hl,h0,h2,hS]
 by_cases k0:key.kind=0
 ·rw [if_pos (.inl k0)]
  unfold n4
  rw [if_neg (fun x=>x a.kf),if_neg (by omega),if_pos k0]
 ·rw [if_neg (by rintro (x | ⟨x, -⟩);exact k0 x;exact x rfl)]
  by_cases e:(n4 s.heap key).2≠0
  ·rw [if_pos e]
  ·rw [if_neg e,c0q a.cl,if_neg (by simp),e1]
   omega
end
end Go.Ab.Td
namespace Go.Ab.Td
set_option maxRecDepth 100000
set_option maxRecDepth 100000
open Go Go.Ab
variable {P:Program}
set_option linter.unusedSimpArgs false
theorem a7z {h:List Cl} {d o:Ob} {c':Cl} (hne:o.ref.toNat≠d.ref.toNat):cellAt (h.set d.ref.toNat c') o=cellAt h o:=by
 unfold cellAt
 rw [List.getElem?_set_ne (fun e=>hne e.symm)]
theorem a7y {h:List Cl} {d o:Ob} {c':Cl} (he:o.ref.toNat=d.ref.toNat):cellAt (h.set d.ref.toNat c') o=cellAt (h.set d.ref.toNat c') d∧cellAt h o=cellAt h d:=by
 unfold cellAt
 rw [he];exact ⟨rfl,rfl⟩
structure Chg (m:Nat) (h h':List Cl) (d k:Ob):Prop where
 dh:DH m h'
 old:Q8 h h'
 key:∀ o,n4 h' o=n4 h o
 oth:∀ d' l,l≠k→look (cellAt h' d') l=look (cellAt h d') l
 far:∀ d',d'.ref.toNat≠d.ref.toNat→cellAt h' d'=cellAt h d'
 c7J:∀ d',d'.ref.toNat=d.ref.toNat→cellAt h' d'=cellAt h' d∧cellAt h d'=cellAt h d
theorem DH.c5K {m:Nat} {h:List Cl} (t:DH m h) {d k v:Ob} (hf:fits h d) (h9:d.kind=9) (hk:b6H k) (kf:fits h k) (vf:fits h v) (kn:k.n<9223372036854775808) (vn:v.n<9223372036854775808) {c':Cl} (hp:Y2 (cellAt h d) k v=some c'):Chg m h (h.set d.ref.toNat c') d k∧look (cellAt (h.set d.ref.toNat c') d) k=some v:=by
 obtain ⟨a,b,k3,p4,p5,p6⟩:=t.put hf h9 hk kf vf kn vn hp
 obtain ⟨c,hc,ec,hc3, -⟩:=c0a t.v hf h9
 refine ⟨⟨a,b,fun o=>c0l hc hc3 k3 o,fun d' l hl=>?_,fun d' hne=>a7z hne,fun d' he=>a7y he⟩,by rw [p6];exact p4⟩
 by_cases he:d'.ref.toNat=d.ref.toNat
 ·obtain ⟨e1,e2⟩:=a7y (h:=h) (c':=c') he
  rw [e1,e2,p6];exact p5 l hl
 ·rw [a7z he]
theorem c4A {m:Nat} {h:List Cl} (_t:DH m h) {o:Ob} (hf:fits h o) (on:o.n<9223372036854775808) (hk:(n4 h o).2=0):b6H (n4 h o).1∧fits h (n4 h o).1∧(n4 h o).1.n<9223372036854775808:=c0p on hf hk
theorem c3x {m:Nat} {h h':List Cl} {dl:List Ob} {k d v':Ob} (_c:Chg m h h' d k) (hv:look (cellAt h' d) k=some v'):a8v h' (dl++[d]) k dl.length d v':=
 ⟨by simp,hv,fun j d' hj hd'=>by have:=(List.getElem?_eq_some_iff.1 hd').1;simp at this;omega⟩
theorem top_other {m:Nat} {h h':List Cl} {ds:List Ob} {k d l d1 v1:Ob} {i:Nat} (c:Chg m h h' d k) (hl:l≠k) (ht:a8v h ds l i d1 v1):a8v h' ds l i d1 v1:=
 ⟨ht.1,by rw [c.oth d1 l hl];exact ht.2.1,fun j d' hj hd'=>by rw [c.oth d' l hl];exact ht.2.2 j d' hj hd'⟩
theorem none_other {m:Nat} {h h':List Cl} {ds:List Ob} {k d l:Ob} (c:Chg m h h' d k) (hl:l≠k) (ht:b0J h ds l):b0J h' ds l:=fun d' hd'=>by rw [c.oth d' l hl];exact ht d' hd'
theorem DS.chg {m:Nat} {s:B8} (t:DS m s) {h':List Cl} {d k:Ob} (c:Chg m s.heap h' d k) {l:List Ob} (h1:l.length≤100) (h2:∀ o ∈ l,fits h' o) (h3:∀ o ∈ l,o.n<9223372036854775808):DS m {s with ops:=l,heap:=h'}:=t.c2L c.dh c.old h1 h2 h3
theorem put_none_max {h:List Cl} {c:Cl} {k v:Ob} (hr:S7 h c) (h3:c.kind=3) (hp:Y2 c k v=none):c.max=(c.keys.length:Int):=by
 obtain ⟨-, -, -, -, -, -,a7, -⟩:=b7y hr h3
 unfold Y2 at hp
 split at hp
 ·cases hp
 ·split at hp
  ·omega
  ·cases hp
end Go.Ab.Td
namespace Go.Ab.Td.TdW16
set_option maxRecDepth 100000
open Go Go.Ab Go.Ab.Td
variable {P:Program}
set_option linter.unusedSimpArgs false
def a2r:TF:=(.node (.node (.node (.node (.node (.leaf g8 a0y) (.node (.node (.leaf u1 a0E) (.leaf U7 a1o)) (.node (.leaf E9 a0F) (.leaf M3 a3M)))) (.node (.node (.node (.leaf F7 Q0) (.leaf r7 a5o)) (.node (.leaf L6 a0H) (.leaf V5 a2F))) (.leaf y0 D7))) (.node (.node (.node (.leaf y5 a2J) (.node (.node (.leaf u4 M7) (.leaf L7 a0I)) .nil)) (.node (.node (.node (.leaf w8 R1) (.leaf y1 a1J)) (.leaf N7 Z6)) (.leaf P3 a1H))) (.node (.node (.leaf k7 a0z) (.leaf x1 F4)) (.node (.node (.leaf y7 J7) (.leaf U9 a1q)) (.leaf C2 S5))))) (.node (.node (.node (.node (.node (.leaf o8 S4) (.leaf J4 a1M)) (.node (.node (.leaf O0 a5m) (.leaf l9 p7)) .nil)) (.node (.node (.leaf I9 a1I) (.leaf C6 a0A)) (.leaf y3 a2C))) (.node (.node (.leaf J0 a4h) (.node (.leaf x2 F6) (.leaf P4 a1L))) (.node (.node (.leaf m6 M6) (.leaf K3 W2)) .nil))) (.node (.node (.node (.leaf C1 R9) (.leaf v7 J8)) (.node (.node (.node (.leaf J2 a4j) (.leaf x7 H3)) (.leaf s9 Z9)) .nil)) (.node (.node (.leaf R4 a0x) (.leaf r6 F5)) (.node (.node (.leaf H9 a2I) (.leaf R5 a0B)) (.leaf e6 Q1)))))) (.node (.node (.node (.node (.node (.node (.leaf m8 W3) (.leaf q9 U4)) .nil) (.node (.node (.node (.leaf u3 E7) (.leaf G7 Y7)) (.leaf U6 a1n)) (.leaf A7 M8))) (.node (.node (.node (.leaf X6 a4f) (.leaf V1 a9M)) (.node (.leaf V4 a2E) (.leaf V0 a2B))) (.node (.leaf D8 M4) (.leaf a2e a6m)))) (.node (.node (.node (.leaf a3r a7P) (.node (.node (.leaf O1 a2G) (.leaf u2 H2)) .nil)) (.node (.node (.leaf u7 U1) (.leaf N8 Z8)) .nil)) (.node (.leaf y4 R0) (.node (.node (.node (.leaf C5 a9L) (.leaf u9 U2)) (.leaf K2 W1)) (.leaf E1 a3J))))) (.node (.node (.node (.node (.node (.leaf N9 a5l) (.leaf a2R a5n)) (.node (.node (.leaf L4 a9N) (.leaf O7 Y6)) .nil)) (.node (.node (.leaf L5 a0G) (.leaf s8 Z7)) .nil)) (.node (.node (.leaf X7 a4g) (.leaf E4 U3)) (.node (.node (.leaf J1 a4i) (.leaf U8 a1p)) .nil))) (.node (.node (.node (.node (.leaf B5 I6) (.leaf x3 a0D)) (.node (.leaf o4 C4) (.leaf E2 a3K))) (.node (.node (.node (.leaf I8 a4e) (.leaf D4 Y8)) (.leaf B4 I5)) .nil)) (.node (.node (.leaf N6 Z5) (.leaf C7 Q9)) (.node (.node (.leaf y9 J9) (.leaf R6 a0C)) (.leaf a3s a7Q)))))))
def a1e:TF:=.nil
def b7n:TF:=(.node .nil (.node .nil (.node (.leaf O7 Y6) (.leaf x3 a0D))))
def b3n:TF:=(.leaf l9 p7)
def ext (_:Nat):Option a2A:=none
theorem c4d (C:Laid P):a2r.all (d8 P)=true:=by simp only [a2r,TF.all,a0f C,a0T C,b2U C,a4q C,a0g C,a7C C,a6Z C,a8a C,b8F C,a0h C,a5E C,a1B C,a4w C,b4v C,a6B C,b4w C,b8E C,b2T C,b2S C,a0Q C,a9d C,a7X C,b0c C,b0b C,a3R C,N3 C,a7Y C,a7Z C,N4 C,a4r C,a2O C,a5A C,a7o C,b0d C,b0e C,a7n C,a9e C,a9f C,a6A C,a5D C,a5B C,a4u C,a1A C,a6D C,a2P C,a7B C,b5s C,a2c C,a6z C,Q3 C,b6E C,a3Q C,W6 C,a2b C,a9g C,a5H C,b6D C,a6y C,a4s C,a6d C,b2R C,a3k C,a2o C,a4t C,a3m C,a1P C,a1y C,T3 C,a2p C,W7 C,a1z C,a5G C,a2x C,N2 C,a5V C,a3o C,T1 C,W8 C,L1 C,a3n C,a5C C,Q6 C,Q4 C,a0S C,Q5 C,a0R C,a3l C,a0i C,Bool.and_self]
theorem c2q (_C:Laid P):a1e.all (d8 P)=true:=by simp only [a1e,TF.all,Bool.and_self]
theorem c4e (C:Laid P):b7n.all (d8 P)=true:=by simp only [b7n,TF.all,a5V C,a6B C,Bool.and_self]
theorem a4p (C:Laid P):S9 P l9 p7=true:=by
 unfold S9
 rw [N2 C]
 kernel_rfl
theorem c2r (C:Laid P):b3n.all (S9 P)=true:=by simp only [b3n,TF.all,a4p C,Bool.and_self]
theorem b5l:a3H P G fun g=>(ext g).map a6c:=by
 intro g h hg
 cases hg
theorem a9m:∀ g ps own r,kn0 g ps=some (own,r)→l3 P G g ps own r:=fun _ _ _ _ h=>by cases h
theorem run:isR [] (.bool true) ((a5s G kn0 ext b7n.fn b3n.fn a2r.fn a1e.fn 10000 20).call J2 [])=true:=by kernel_rfl
theorem ok (C:Laid P):l3 P G J2 [] [] (.bool true):=b0n C.mixed a9m b5l (TF.d6 (c4e C)) (TF.d6 (c2r C)) (TF.d6 (c4d C)) (TF.d6 (c2q C)) (b6C run)
end Go.Ab.Td.TdW16

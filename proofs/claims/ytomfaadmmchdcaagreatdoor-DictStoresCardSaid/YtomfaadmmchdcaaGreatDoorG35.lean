/- A part of the proof: the texts TdSl, TdZm, TdZn. Under: nothing. -/
import Derived.Test.YtomfaadmmchdcaaGreatDoorG22
import Derived.Test.YtomfaadmmchdcaaGreatDoorG24
import Derived.Test.YtomfaadmmchdcaaGreatDoorG34
import Derived.Test.YtomfaadmmchdcaaGreatDoorG21
import Derived.Test.YtomfaadmmchdcaaGreatDoorG28
import Derived.Test.YtomfaadmmchdcaaGreatDoorG26
import Derived.Test.YtomfaadmmchdcaaGreatDoorG29
import Derived.Test.YtomfaadmmchdcaaGreatDoorG05
set_option linter.unusedVariables false
namespace Go.Ab.Td
set_option maxRecDepth 100000
set_option maxRecDepth 100000
open Go Go.Ab
variable {P:Program}
set_option linter.unusedSimpArgs false
structure RH (h:List Cl):Prop where
 len:10≤h.length∧h.length≤20
 cat:h[4]?=some b4e
 b6u:∀ j:Nat,5≤j→j≤9→∃ c,h[j]?=some c∧c.kind=3
 valid:a5S h
 nc:∀ c ∈ h,nC c
theorem a1f.rh {h:List Cl} (t:a1f h):RH h:=
 ⟨t.1.hi.len,t.1.hi.cat,t.1.hi.b6u,t.valid,fun c hc=>a7l.nC (t.1.ok c hc)⟩
theorem RH.sm {h:List Cl} (t:RH h):small h:=a6T t.valid (by have:=t.len;omega)
theorem RH.set {h:List Cl} (t:RH h) {j:Nat} (h5:5≤j) (h9:j≤9) {c c':Cl} (hc:h[j]?=some c) (hk:c'.kind=3) (hs:c'.size=c.size) (hr:S7 h c') (hn:nC c'):RH (h.set j c'):=by
 obtain ⟨d,hd,hk2⟩:=t.b6u j h5 h9
 rw [hc] at hd
 cases hd
 refine ⟨by rw [List.length_set];exact t.len,?_,fun i a b=>?_,a7j t.valid hc (by omega) (.inl hk) hs hr,b4A t.nc hn j⟩
 ·rw [List.getElem?_set_ne (by omega)];exact t.cat
 ·by_cases hij:j=i
  ·subst hij
   rw [List.getElem?_set_self (List.getElem?_eq_some_iff.1 hc).1]
   exact ⟨c',rfl,hk⟩
  ·rw [List.getElem?_set_ne hij];exact t.b6u i a b
theorem RH.dic {h:List Cl} (t:RH h) {cs:List UInt8} {j:Int} (hl:look b4e (nmO cs)=some (dO j)) (h5:5≤j) (h9:j≤9):
 b5h h (nmO cs)=0∧c2y h (nmO cs)=dO j∧U0 h (dO j) [9]=0∧∃ c,h[j.toNat]?=some c∧cellAt h (dO j)=c∧c.kind=3∧S7 h c∧nC c:=by
 obtain ⟨v1,v2⟩:=b3T (j:=4) (by decide) (by decide) t.cat rfl
 have e1:b5h h (nmO cs)=0:=by
  unfold b5h
  rw [if_pos ⟨v1,by rw [show cellAt h b8o=b4e from v2,hl];exact ⟨rfl,rfl⟩⟩]
 obtain ⟨c,hc,hk⟩:=t.b6u j.toNat (by omega) (by omega)
 obtain ⟨w1,w2⟩:=b3T (j:=j) (by omega) (by omega) hc hk
 refine ⟨e1,?_,w1,c,hc,w2,hk,t.valid.1 c (List.mem_of_getElem? hc),t.nc c (List.mem_of_getElem? hc)⟩
 unfold c2y
 rw [if_pos e1,show cellAt h b8o=b4e from v2,hl]
 rfl
theorem RH.find {h:List Cl} (t:RH h) {cs:List UInt8} {j:Int} (hl:look b4e (nmO cs)=some (dO j)) (h5:5≤j) (h9:j≤9) (k:Ob):
 rfO h cs k=(look (cellAt h (dO j)) k).getD V8∧rfE h cs k=if (look (cellAt h (dO j)) k).isSome=true then 0 else 40:=by
 obtain ⟨e1,e2,e3, -⟩:=t.dic hl h5 h9
 unfold rfO rfE c5E c5D
 rw [if_pos e1,if_pos e1,e2,if_neg (by rw [e3];simp),if_neg (by rw [e3];simp)]
 exact ⟨rfl,rfl⟩
theorem b8x {h:List Cl} {j:Nat} {c c':Cl} (hc:h[j]?=some c) (hk:c.kind=3) (hk':c'.kind=3) (o:Ob):fits (h.set j c') o↔fits h o:=by
 refine ⟨fun hf=>?_,fun hf=>a8T hc (by omega) (.inl hk') hf⟩
 have hl:=(List.getElem?_eq_some_iff.1 hc).1
 have e:(h.set j c').set j c=h:=by
  apply List.ext_getElem?
  intro i
  by_cases hi:i=j
  ·subst hi;rw [List.getElem?_set_self (by rw [List.length_set];exact hl),hc]
  ·rw [List.getElem?_set_ne (fun x=>hi x.symm),List.getElem?_set_ne (fun x=>hi x.symm)]
 rw [← e]
 exact a8T (List.getElem?_set_self hl) (by omega) (.inl hk) hf
theorem c0h {h:List Cl} {o:Ob} (hf:fits h o) (hk:E8 o.kind≠0):∃ c,h[o.ref.toNat]?=some c∧cellAt h o=c∧c.kind=E8 o.kind∧True:=by
 obtain ⟨h1,h2, -⟩:=a9V hf hk
 exact ⟨_,h1,rfl,h2,trivial⟩
theorem c0l {h:List Cl} {j:Nat} {c c':Cl} (hc:h[j]?=some c) (hk:c.kind=3) (hk':c'.kind=3) (o:Ob):n4 (h.set j c') o=n4 h o:=by
 have hi:fits (h.set j c') o=fits h o:=propext (b8x hc hk hk' o)
 unfold n4
 rw [hi]
 by_cases hf:fits h o
 ·by_cases h6:o.kind=6
  ·have e:sub (h.set j c') o=sub h o:=by
    obtain ⟨d,hd,ed,hdk, -⟩:=c0h hf (by rw [h6];decide)
    rw [h6] at hdk
    have hne:j≠o.ref.toNat:=by
     intro x
     subst x
     rw [hc] at hd
     cases hd
     rw [hk] at hdk
     exact absurd hdk (by decide)
    unfold sub cellAt
    rw [List.getElem?_set_ne hne]
   rw [e]
  ·simp [h6]
 ·simp [hf]
structure RA (s:B8) (key:Ob) (cs:List UInt8) (j:Int):Prop where
 rh:RH s.heap
 kn:key.n<9223372036854775808
 kf:fits s.heap key
 cl:cs.length≤100
 j5:5≤j
 j9:j≤9
 lk:look b4e (nmO cs)=some (dO j)
abbrev S3 (s:B8) (key o:Ob) (cs:List UInt8):B8:={s with ops:=[key,o,nmO cs]}
abbrev S2 (s:B8) (key:Ob) (cs:List UInt8):B8:={s with ops:=[key,nmO cs]}
section
variable {s:B8} {key o:Ob} {cs:List UInt8} {j:Int} (a:RA s key cs j) (C:Laid P)
include a
theorem RA.n3 (ho:o.n<9223372036854775808):nOk (S3 s key o cs):=by
 refine ⟨a.rh.sm,by simp [S3],fun x hx=>?_,fun c hc=>(a.rh.nc c hc).2.2⟩
 simp only [S3,List.mem_cons,List.not_mem_nil,or_false] at hx
 rcases hx with rfl | rfl | rfl
 ·exact a.kn
 ·exact ho
 ·show (0:Int)<_;decide
theorem RA.n2:nOk (S2 s key cs):=by
 refine ⟨a.rh.sm,by simp [S2],fun x hx=>?_,fun c hc=>(a.rh.nc c hc).2.2⟩
 simp only [S2,List.mem_cons,List.not_mem_nil,or_false] at hx
 rcases hx with rfl | rfl
 ·exact a.kn
 ·show (0:Int)<_;decide
theorem RA.asks {S:B8} {n:Int} (hS:S.heap=s.heap) (h0:opA S n 0=key) (h2:opA S n (n - 1)=nmO cs) (hl:¬ (S.ops.length:Int)<n):c5t S n=(n4 s.heap key).2:=by
 obtain ⟨e1, -⟩:=a.rh.dic a.lk a.j5 a.j9
 unfold c5t
 rw [if_neg hl,h0,h2,hS]
 by_cases k0:key.kind=0
 ·rw [if_pos (.inl k0)]
  unfold n4
  rw [if_neg (fun x=>x a.kf),if_neg (by omega),if_pos k0]
 ·rw [if_neg (by rintro (x | ⟨x, -⟩);exact k0 x;exact x rfl)]
  by_cases e:(n4 s.heap key).2≠0
  ·rw [if_pos e]
  ·rw [if_neg e,c0q a.cl,if_neg (by simp),e1]
   omega
end
end Go.Ab.Td
namespace Go.Ab.Td
set_option maxRecDepth 100000
set_option maxRecDepth 100000
open Go Go.Ab
variable {P:Program}
set_option linter.unusedSimpArgs false
theorem a7z {h:List Cl} {d o:Ob} {c':Cl} (hne:o.ref.toNat≠d.ref.toNat):cellAt (h.set d.ref.toNat c') o=cellAt h o:=by
 unfold cellAt
 rw [List.getElem?_set_ne (fun e=>hne e.symm)]
theorem a7y {h:List Cl} {d o:Ob} {c':Cl} (he:o.ref.toNat=d.ref.toNat):cellAt (h.set d.ref.toNat c') o=cellAt (h.set d.ref.toNat c') d∧cellAt h o=cellAt h d:=by
 unfold cellAt
 rw [he];exact ⟨rfl,rfl⟩
structure Chg (m:Nat) (h h':List Cl) (d k:Ob):Prop where
 dh:DH m h'
 old:Q8 h h'
 key:∀ o,n4 h' o=n4 h o
 oth:∀ d' l,l≠k→look (cellAt h' d') l=look (cellAt h d') l
 far:∀ d',d'.ref.toNat≠d.ref.toNat→cellAt h' d'=cellAt h d'
 c7J:∀ d',d'.ref.toNat=d.ref.toNat→cellAt h' d'=cellAt h' d∧cellAt h d'=cellAt h d
theorem DH.c5K {m:Nat} {h:List Cl} (t:DH m h) {d k v:Ob} (hf:fits h d) (h9:d.kind=9) (hk:b6H k) (kf:fits h k) (vf:fits h v) (kn:k.n<9223372036854775808) (vn:v.n<9223372036854775808) {c':Cl} (hp:Y2 (cellAt h d) k v=some c'):Chg m h (h.set d.ref.toNat c') d k∧look (cellAt (h.set d.ref.toNat c') d) k=some v:=by
 obtain ⟨a,b,k3,p4,p5,p6⟩:=t.put hf h9 hk kf vf kn vn hp
 obtain ⟨c,hc,ec,hc3, -⟩:=c0a t.v hf h9
 refine ⟨⟨a,b,fun o=>c0l hc hc3 k3 o,fun d' l hl=>?_,fun d' hne=>a7z hne,fun d' he=>a7y he⟩,by rw [p6];exact p4⟩
 by_cases he:d'.ref.toNat=d.ref.toNat
 ·obtain ⟨e1,e2⟩:=a7y (h:=h) (c':=c') he
  rw [e1,e2,p6];exact p5 l hl
 ·rw [a7z he]
theorem c4A {m:Nat} {h:List Cl} (_t:DH m h) {o:Ob} (hf:fits h o) (on:o.n<9223372036854775808) (hk:(n4 h o).2=0):b6H (n4 h o).1∧fits h (n4 h o).1∧(n4 h o).1.n<9223372036854775808:=c0p on hf hk
theorem c0P {c:Cl} {k v v':Ob} (hl:look c k=some v):∃ c',Y2 c k v'=some c':=by
 unfold look at hl
 split at hl
 ·cases hl
 ·rename_i h0
  have hlt:=(List.getElem?_eq_some_iff.1 hl).1
  unfold Y2
  rw [if_pos ⟨by omega,by omega⟩]
  exact ⟨_,rfl⟩
theorem c3y {m:Nat} {h h':List Cl} {ds:List Ob} {k d v v':Ob} {i:Nat} (ht:a8v h ds k i d v) (c:Chg m h h' d k) (hv:look (cellAt h' d) k=some v'):a8v h' ds k i d v':=by
 obtain ⟨h1,h2,h3⟩:=ht
 refine ⟨h1,hv,fun j d' hj hd'=>?_⟩
 by_cases he:d'.ref.toNat=d.ref.toNat
 ·have:=h3 j d' hj hd'
  rw [(c.c7J d' he).2,h2] at this
  cases this
 ·rw [c.far d' he];exact h3 j d' hj hd'
theorem c3x {m:Nat} {h h':List Cl} {dl:List Ob} {k d v':Ob} (_c:Chg m h h' d k) (hv:look (cellAt h' d) k=some v'):a8v h' (dl++[d]) k dl.length d v':=
 ⟨by simp,hv,fun j d' hj hd'=>by have:=(List.getElem?_eq_some_iff.1 hd').1;simp at this;omega⟩
theorem DS.chg {m:Nat} {s:B8} (t:DS m s) {h':List Cl} {d k:Ob} (c:Chg m s.heap h' d k) {l:List Ob} (h1:l.length≤100) (h2:∀ o ∈ l,fits h' o) (h3:∀ o ∈ l,o.n<9223372036854775808):DS m {s with ops:=l,heap:=h'}:=t.c2L c.dh c.old h1 h2 h3
end Go.Ab.Td
namespace Go.Ab.Td
set_option maxRecDepth 100000
set_option maxRecDepth 100000
open Go Go.Ab
variable {P:Program}
set_option linter.unusedSimpArgs false
attribute [local irreducible] e9
set_option linter.unusedVariables false
abbrev b4Q (b:Int):Ob:=⟨2,false,b,[],0,0,0⟩
set_option maxHeartbeats 4000000 in
theorem a6M (C:Laid P) (s t:B8) (op:List UInt8) (l:List Ob) (e:Int) (h:l3 P G C5 [aS {s with ops:=l},.str op] [] (.o0 [aS t,pI e])):l3 P G u0 [aS s,.str op,.sl 7 (List.map i4 l)] [] (.o0 [aS t,pI e]):=by
 refine k8 C (b6F C) rfl ?_
 repeat' ((conv=>whnf);first | (with_reducible refine sC (by kernel_rfl) ?_) | ((first | (with_reducible first | refine sB ?_ | refine z7 ?_ | refine z8 ?_) | refine sP (by rfl) ?_);first | refine oT ?_ | refine oF ?_ | (refine Or.inr (Or.inr ⟨fun hsp=>?_,fun hsp=>?_⟩) <;>(try simp only [nm] at hsp) <;>try subst hsp)) | refine ⟨_,_,h,?_⟩ | fail)
 all_goals (conv=>whnf)
 all_goals (first | exact PV.le.refl _ | ((repeat' (first | (with_reducible exact PV.le.refl _) | exact PV.le.emp _ | exact E6.nil | (with_reducible refine p8 ?_) | (with_reducible refine o6 ?_) | (refine E6.cons ?_ ?_) | (with_reducible refine l0 ?_) | (with_reducible refine q8 ?_) | (with_reducible refine A9 ?_) | (with_reducible refine z9 ?_) | (with_reducible refine o3 ?_) | (refine A8 ?_))) <;>first | rfl | exact le_of_eq rfl))
set_option maxHeartbeats 1000000 in
theorem b2j (C:Laid P) (b:Bool):l3 P G J1 [.bool b] [] (aO ⟨2,false,(if b=true then 1 else 0),[],0,0,0⟩):=by
 refine k8 C (a7C C) rfl ?_
 cases b
 repeat' ((conv=>whnf);first | (with_reducible refine sC (by kernel_rfl) ?_) | ((first | (with_reducible first | refine sB ?_ | refine z7 ?_ | refine z8 ?_) | refine sP (by rfl) ?_);first | refine oT ?_ | refine oF ?_ | (refine Or.inr (Or.inr ⟨fun hsp=>?_,fun hsp=>?_⟩) <;>(try simp only [nm] at hsp) <;>try subst hsp)) | fail)
 all_goals (conv=>whnf)
 all_goals (first | exact PV.le.refl _ | ((repeat' (first | (with_reducible exact PV.le.refl _) | exact PV.le.emp _ | exact E6.nil | (with_reducible refine p8 ?_) | (with_reducible refine o6 ?_) | (refine E6.cons ?_ ?_) | (with_reducible refine l0 ?_) | (with_reducible refine q8 ?_) | (with_reducible refine A9 ?_) | (with_reducible refine z9 ?_) | (with_reducible refine o3 ?_) | (refine A8 ?_))) <;>first | rfl | exact le_of_eq rfl))
theorem DS.one {m:Nat} {s:B8} (t:DS m s) {a:Ob} (fa:fits s.heap a) (na:a.n<9223372036854775808):DS m {s with ops:=[a]}:=
 t.b2D (by simp) (fun o ho=>by simp only [List.mem_singleton] at ho;subst ho;exact fa) (fun o ho=>by simp only [List.mem_singleton] at ho;subst ho;exact na)
theorem DS.two {m:Nat} {s:B8} (t:DS m s) {a b:Ob} (fa:fits s.heap a) (na:a.n<9223372036854775808) (fb:fits s.heap b) (nb:b.n<9223372036854775808):DS m {s with ops:=[a,b]}:=
 t.b2D (by simp) (fun o ho=>by simp only [List.mem_cons,List.not_mem_nil,or_false] at ho;rcases ho with rfl | rfl <;>assumption) (fun o ho=>by simp only [List.mem_cons,List.not_mem_nil,or_false] at ho;rcases ho with rfl | rfl <;>assumption)
theorem DS.three {m:Nat} {s:B8} (t:DS m s) {a b c:Ob} (fa:fits s.heap a) (na:a.n<9223372036854775808) (fb:fits s.heap b) (nb:b.n<9223372036854775808) (fc:fits s.heap c) (nc:c.n<9223372036854775808):DS m {s with ops:=[a,b,c]}:=
 t.b2D (by simp) (fun o ho=>by simp only [List.mem_cons,List.not_mem_nil,or_false] at ho;rcases ho with rfl | rfl | rfl <;>assumption) (fun o ho=>by simp only [List.mem_cons,List.not_mem_nil,or_false] at ho;rcases ho with rfl | rfl | rfl <;>assumption)
theorem DS.nil {m:Nat} {s:B8} (t:DS m s):DS m {s with ops:=[]}:=t.b2D (by simp) (fun o ho=>by cases ho) (fun o ho=>by cases ho)
end Go.Ab.Td

/- A part of the proof: the texts TdZd, TdVs, TdWs, TdWk. Under: nothing. -/
import Derived.Test.YtomfaadmmchdcaaGreatDoorG26
import Derived.Test.YtomfaadmmchdcaaGreatDoorG23
import Derived.Test.YtomfaadmmchdcaaGreatDoorG22
set_option linter.unusedVariables false
namespace Go.Ab.Td
set_option maxRecDepth 100000
set_option maxRecDepth 100000
open Go Go.Ab
variable {P:Program}
set_option linter.unusedSimpArgs false
structure DH (m:Nat) (h:List Cl):Prop where
 v:a5S h
 len:2≤h.length∧h.length≤m
 tot:0≤F8 0 h
 nc:∀ c ∈ h,nC c
theorem DH.more {m n:Nat} {h:List Cl} (t:DH m h) (e:m≤n):DH n h:=⟨t.v,⟨t.len.1,by have:=t.len;omega⟩,t.tot,t.nc⟩
theorem DH.sm {m:Nat} {h:List Cl} (t:DH m h) (hm:m≤1000000):small h:=a6T t.v (by have:=t.len;omega)
theorem DH.vh {m:Nat} {h:List Cl} (t:DH m h) (hm:m≤20000):VH h:=⟨t.v,by have:=t.len;omega⟩
theorem a1f.dh {h:List Cl} (t:a1f h):DH 20 h:=by
 have:=t.1.hi.len
 exact ⟨t.valid,⟨by omega,by omega⟩,t.2.2.1,fun c hc=>a7l.nC (t.1.ok c hc)⟩
theorem c0a {h:List Cl} (hv:a5S h) {d:Ob} (hf:fits h d) (hk:d.kind=9):∃ c,h[d.ref.toNat]?=some c∧cellAt h d=c∧c.kind=3∧S7 h c:=by
 obtain ⟨h1,h2, -⟩:=a9V hf (by rw [hk];decide)
 exact ⟨_,h1,rfl,by rw [h2,hk];rfl,hv.1 _ (List.mem_of_getElem? h1)⟩
theorem DH.put {m:Nat} {h:List Cl} (t:DH m h) {d k v:Ob} (hf:fits h d) (h9:d.kind=9) (hk:b6H k) (kf:fits h k) (vf:fits h v) (kn:k.n<9223372036854775808) (vn:v.n<9223372036854775808) {c':Cl} (hp:Y2 (cellAt h d) k v=some c'):
 DH m (h.set d.ref.toNat c')∧Q8 h (h.set d.ref.toNat c')∧c'.kind=3∧look c' k=some v∧(∀ l,l≠k→look c' l=look (cellAt h d) l)∧cellAt (h.set d.ref.toNat c') d=c':=by
 obtain ⟨c,hc,e,h3,hr⟩:=c0a t.v hf h9
 rw [e] at hp
 obtain ⟨p1,p2,p3,p4,p5, -⟩:=b8U hr h3 hk kf vf hp
 have hl:=(List.getElem?_eq_some_iff.1 hc).1
 refine ⟨⟨a7j t.v hc (by omega) (.inl p2) p3 p1,by rw [List.length_set];exact t.len,by rw [a9H p3 h _ 0 hc];exact t.tot,b4A t.nc (c4F (t.nc c (List.mem_of_getElem? hc)) kn vn hp) _⟩,Q8.set hc (by omega) (.inl p2),p2,p4,fun l hl=>by rw [e];exact p5 l hl,?_⟩
 unfold cellAt
 rw [List.getElem?_set_self hl];rfl
theorem DH.rem {m:Nat} {h:List Cl} (t:DH m h) {d k:Ob} (hf:fits h d) (h9:d.kind=9) (hm:k ∈ (cellAt h d).keys):
 ∃ i:Nat,i3 k 0 (cellAt h d).keys=(i:Int)∧i<(cellAt h d).keys.length∧i<(cellAt h d).B2.length∧DH m (h.set d.ref.toNat (a6a (cellAt h d) i))∧Q8 h (h.set d.ref.toNat (a6a (cellAt h d) i))∧look (a6a (cellAt h d) i) k=none∧cellAt (h.set d.ref.toNat (a6a (cellAt h d) i)) d=a6a (cellAt h d) i:=by
 obtain ⟨c,hc,e,h3,hr⟩:=c0a t.v hf h9
 rw [e] at hm ⊢
 obtain ⟨i,q1,q2,q3,q4,q5⟩:=b8W hr h3 hm
 have hl:=(List.getElem?_eq_some_iff.1 hc).1
 refine ⟨i,q1,q2,q3,⟨a7j t.v hc rfl (.inl h3) rfl q4,by rw [List.length_set];exact t.len,by rw [a9H (c:=c) (c':=a6a c i) rfl h _ 0 hc];exact t.tot,b4A t.nc (c4G (t.nc c (List.mem_of_getElem? hc)) i) _⟩,Q8.set hc rfl (.inl h3),q5,?_⟩
 unfold cellAt
 rw [List.getElem?_set_self hl];rfl
def b5E (n:Int):Cl:=⟨3,[],[],[],[],n,0⟩
theorem c4I {h:List Cl} {n:Int} (h0:0≤n) (h1:n≤200):S7 h (b5E n):=
 .inr (.inr (.inl ⟨rfl,rfl,rfl,rfl,h0,h1,rfl,by show ((0:Nat):Int)≤n;omega,fun o ho=>(by cases ho),fun o ho=>(by cases ho),a4W.2 ⟨fun o ho=>(by cases ho),List.Pairwise.nil⟩⟩))
theorem b8I {n:Int} (h0:0≤n) (h1:n≤200):(b5E n).size=1+2*n:=by
 unfold Cl.size
 rw [if_pos (show (b5E n).kind=3 from rfl),if_neg (by show ¬ n<0;omega),if_neg (by show ¬ n>200;omega)];rfl
theorem DH.app {m:Nat} {h:List Cl} (t:DH m h) {n:Int} (h0:0≤n) (h1:n≤200) (ht:¬ IntKind.i64.wrap (F8 0 h+(b5E n).size)>20000):DH (m+1) (h++[b5E n])∧Q8 h (h++[b5E n]):=by
 have hs:=b8I h0 h1
 have h2:=t.v.2
 have h3:=t.tot
 have w:IntKind.i64.wrap (F8 0 h+(b5E n).size)=F8 0 h+(b5E n).size:=wrap_small (by omega) (by omega)
 refine ⟨⟨⟨fun c hc=>?_,by rw [a9G];omega⟩,by rw [List.length_append];have:=t.len;simp;omega,by rw [a9G,w];omega,fun c hc=>?_⟩,Q8.app _ _⟩
 ·rcases List.mem_append.1 hc with hc | hc
  ·exact a0c (fun o ho=>a6u ho) (t.v.1 c hc)
  ·simp only [List.mem_singleton] at hc;subst hc;exact c4I h0 h1
 ·rcases List.mem_append.1 hc with hc | hc
  ·exact t.nc c hc
  ·simp only [List.mem_singleton] at hc;subst hc;exact ⟨fun o ho=>(by cases ho),fun o ho=>(by cases ho),fun o ho=>(by cases ho)⟩
structure DS (m:Nat) (s:B8):Prop where
 h3:s.f3=[]
 h62:s.f62=[]
 dh:DH m s.heap
 ol:s.ops.length≤100
 of':∀ o ∈ s.ops,fits s.heap o
 on:∀ o ∈ s.ops,o.n<9223372036854775808
 dl:2≤s.d5.length∧s.d5.length≤20
 df:∀ o ∈ s.d5,fits s.heap o
 dk:∀ o ∈ s.d5,o.kind=9
theorem c7G {h:List Cl} {o:Ob} (hf:fits h o) (hk:o.kind=9):o.n<9223372036854775808:=by
 have:=hf.1.2.1.1
 omega
theorem DS.dn {m:Nat} {s:B8} (t:DS m s):∀ o ∈ s.d5,o.n<9223372036854775808:=fun o ho=>c7G (t.df o ho) (t.dk o ho)
theorem DS.dv {m:Nat} {s:B8} (t:DS m s):∀ o ∈ s.d5,U0 s.heap o [9]=0:=fun o ho=>c6u (t.df o ho) (t.dk o ho)
theorem DS.top {m:Nat} {s:B8} (t:DS m s):∃ dl d,s.d5=dl++[d]∧dl.length≤19∧1≤dl.length:=by
 have hd:=t.dl
 refine ⟨s.d5.take (s.d5.length - 1),s.d5[s.d5.length - 1],?_,by rw [List.length_take];omega,by rw [List.length_take];omega⟩
 apply List.ext_getElem
 ·simp;omega
 ·intro i h1 h2
  by_cases hi:i<s.d5.length - 1
  ·rw [List.getElem_append_left (by simp;omega)];simp
  ·have:i=s.d5.length - 1:=by omega
   subst this
   rw [List.getElem_append_right (by simp)];simp
theorem DS.more {m n:Nat} {s:B8} (t:DS m s) (e:m≤n):DS n s:={t with dh:=t.dh.more e}
theorem DS.b2D {m:Nat} {s:B8} (t:DS m s) {l:List Ob} (h1:l.length≤100) (h2:∀ o ∈ l,fits s.heap o) (h3:∀ o ∈ l,o.n<9223372036854775808):DS m {s with ops:=l}:=
 ⟨t.h3,t.h62,t.dh,h1,h2,h3,t.dl,t.df,t.dk⟩
theorem DS.c2L {m n:Nat} {s:B8} (t:DS m s) {h:List Cl} (hh:DH n h) (ho:Q8 s.heap h) {l:List Ob} (h1:l.length≤100) (h2:∀ o ∈ l,fits h o) (h3:∀ o ∈ l,o.n<9223372036854775808):DS n {s with ops:=l,heap:=h}:=
 ⟨t.h3,t.h62,hh,h1,h2,h3,t.dl,fun o ho'=>a3i ho (t.df o ho'),t.dk⟩
theorem DS.setDicts {m:Nat} {s:B8} (t:DS m s) {l:List Ob} (h1:2≤l.length∧l.length≤20) (h2:∀ o ∈ l,fits s.heap o) (h3:∀ o ∈ l,o.kind=9):DS m {s with d5:=l}:=
 ⟨t.h3,t.h62,t.dh,t.ol,t.of',t.on,h1,h2,h3⟩
def kvG (h:List Cl) (p:Ob × Ob):Prop:=(b6H p.1∧fits h p.1∧p.1.n<9223372036854775808)∧fits h p.2∧p.2.n<9223372036854775808
theorem kvG.c8k {h h':List Cl} (ho:Q8 h h') {p:Ob × Ob} (t:kvG h p):kvG h' p:=⟨⟨t.1.1,a3i ho t.1.2.1,t.1.2.2⟩,a3i ho t.2.1,t.2.2⟩
end Go.Ab.Td
namespace Go.Ab.Td
set_option maxRecDepth 100000
set_option maxRecDepth 100000
open Go Go.Ab
variable {P:Program}
attribute [local irreducible] e9
theorem b6I (C:Laid P) (cells ops d5:List (List PV)) (hc:∀ r ∈ cells,a1W r):∃ H,(a4J H∧∃ h,LeR H (h.map j8)∧H.length=h.length∧a1f h)∧l3 P G F1 [.agg [.sl 5 cells,.sl 5 ops,.sl 1 d5]] [] (.sl 7 H):=by
 obtain ⟨H,hI,h2⟩:=b8z (fun H=>a4J H∧∃ h,LeR H (h.map j8)∧H.length=h.length∧a1f h) ⟨⟨[],rfl,by simp,b1M⟩,a1w,c0f,rfl,c2z⟩ (l3 P G) cells ops d5 hc (First.ok C) (fun K A B N S H hA hB hN _ hlt ⟨⟨more,em,hm,hall⟩,h,e,hl,t⟩=>by
  obtain ⟨r,h1,h2⟩:=b8p (FV h) (l3 P G) H K A B N S hA hB hN (fun K' A' B' N' S' a b n=>b5u C t.1 e K' A' B' N' S' a b n) (c0s C) (c0t C)
  obtain ⟨c,ec,c1,c2,c3,c4⟩:=c2v h1
  have ml:H.length=10+more.length:=by rw [em,List.length_append];rfl
  refine ⟨r,⟨b7u h1,⟨more++[r],by rw [em,List.append_assoc],by simp;omega,?_⟩,h++[c],by rw [List.map_append];exact e.append (.cons ec .nil),by simp [hl],t.app (by omega) c1 c2 c3 c4⟩,a8h C (a9j C) rfl h2⟩
  intro x hx
  rcases List.mem_append.1 hx with hx | hx
  ·exact hall x hx
  ·simp only [List.mem_singleton] at hx;subst hx;exact b7u h1)
 exact ⟨H,hI,a8h C (a8c C) rfl h2⟩
end Go.Ab.Td
namespace Go.Ab.Td
set_option maxRecDepth 100000
open Go Go.Ab
variable {P:Program}
attribute [local irreducible] e9
end Go.Ab.Td
namespace Go.Ab.Td
set_option maxRecDepth 100000
set_option maxRecDepth 100000
open Go Go.Ab
variable {P:Program}
set_option linter.unusedSimpArgs false
theorem a2v {p:Prop} [Decidable p] {a b:Ob} (h1:a.kind≠12) (h2:b.kind≠12):(if p then a else b).kind≠12:=by
 by_cases hp:p
 ·rw [if_pos hp];exact h1
 ·rw [if_neg hp];exact h2
theorem c0M (h:List Cl) (kd cl A B N:Int) (hk:kd≠12):(a1l h kd cl A B N).kind≠12:=by
 unfold a1l
 dsimp only
 exact a2v (by first | (simp;done) | (simp [V8];done)) (a2v hk (a2v hk hk))
theorem c2I (h:List Cl) (K A B N:Int):(a6H h K A B N).kind≠12:=by
 have hp:=fun kd cl hk=>c0M h kd cl A B N hk
 unfold a6H
 exact a2v (by first | (simp;done) | (simp [V8];done)) (a2v (by first | (simp;done) | (simp [V8];done)) (a2v (by first | (simp;done) | (simp [V8];done)) (a2v (by first | (simp;done) | (simp [V8];done)) (a2v (by first | (simp;done) | (simp [V8];done)) (a2v (by first | (simp;done) | (simp [V8];done)) (a2v (by first | (simp;done) | (simp [V8];done)) (a2v (by first | (simp;done) | (simp [V8];done)) (a2v (hp 6 1 (by decide)) (a2v (hp 7 2 (by decide)) (a2v (hp 8 2 (by decide)) (a2v (hp 9 3 (by decide)) (a2v (by first | (simp;done) | (simp [V8];done)) (hp 11 4 (by decide))))))))))))))
end Go.Ab.Td

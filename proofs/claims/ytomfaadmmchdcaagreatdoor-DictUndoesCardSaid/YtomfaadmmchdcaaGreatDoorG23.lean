/- A part of the proof: the texts TdSu, TdVe, TdRK, TdEq, TdEr, TdRL. Under: nothing. -/
import Derived.Test.YtomfaadmmchdcaaGreatDoorG21
import Derived.Test.YtomfaadmmchdcaaGreatDoorG22
import Derived.Test.YtomfaadmmchdcaaGreatDoorG17
import Derived.Test.YtomfaadmmchdcaaGreatDoorG20
import Derived.Test.YtomfaadmmchdcaaGreatDoorG19
set_option linter.unusedVariables false
namespace Go.Ab.Td
set_option maxRecDepth 100000
set_option maxRecDepth 100000
open Go Go.Ab
variable {P:Program}
theorem c2B {h:List Cl} (t:a2t h):h[4]?=some b4e∧(∀ j:Nat,5≤j→j≤9→h[j]?=some (dct [] [] 10))∧10≤h.length:=by
 obtain ⟨more,rfl,hm,hall⟩:=t
 refine ⟨rfl,fun j h1 h2=>?_,by simp [a1w]⟩
 have:j=5∨j=6∨j=7∨j=8∨j=9:=by omega
 rcases this with rfl | rfl | rfl | rfl | rfl <;>rfl
theorem b2z (j:Int) (h0:0≤j) (h1:j≤20000):(dO j).right:=by
 unfold Ob.right Ob.blank dO;simp;omega
theorem b3T {h:List Cl} {j:Int} {c:Cl} (h0:0≤j) (h1:j≤20000) (hc:h[j.toNat]?=some c) (hk:c.kind=3):U0 h (dO j) [9]=0∧cellAt h (dO j)=c:=by
 have hca:cellAt h (dO j)=c:=by show (h[j.toNat]?).getD cl0=c;rw [hc];rfl
 have hf:fits h (dO j):=(b1N (b2z j h0 h1)).2 (.inr ⟨by have:=(List.getElem?_eq_some_iff.1 hc).1;show j<_;omega,by rw [hca,hk];rfl,.inl rfl⟩)
 refine ⟨?_,hca⟩
 unfold U0
 rw [if_neg (Classical.not_not.2 hf),if_pos (by simp [dO])]
theorem c0q {h:List Cl} {s:List UInt8} (hs:s.length≤100):n4 h (nmO s)=(nmO s,0):=by
 have hr:(nmO s).right:=(F2 s false).2 hs
 have hf:fits h (nmO s):=⟨hr,fun hk=>absurd rfl hk⟩
 unfold n4
 rw [if_neg (Classical.not_not.2 hf),if_neg (by simp [nmO]),if_neg (by simp [nmO])]
 simp [Ob.key,nmO]
section
variable {s:B8} (hs:b9M s) {cs:List UInt8} (hc:cs ∈ b6t) (o:Ob) (ho:o.n<9223372036854775808)
end
end Go.Ab.Td
namespace Go.Ab.Td
set_option maxRecDepth 100000
set_option maxRecDepth 100000
open Go Go.Ab
variable {P:Program}
set_option linter.unusedSimpArgs false
theorem c4K (s:List UInt8):(nmO s).key=nmO s:=by simp [Ob.key,nmO]
theorem b5t {ss:List (List UInt8)} (h:ss.Pairwise (·≠·)):b7K (ss.map nmO):=by
 intro i k hk
 rw [List.getElem?_map,Option.map_eq_some_iff] at hk
 obtain ⟨s,hs,rfl⟩:=hk
 refine ⟨by simp [nmO],by simp [nmO],c4K s,?_⟩
 have q:=a8W (nmO s) (ss.map nmO) i 0 (by rw [List.getElem?_map,hs];rfl)
 have no:¬ nmO s ∈ (ss.map nmO).take i:=by
  intro hm
  rw [← List.map_take] at hm
  obtain ⟨s',h1,h2⟩:=List.mem_map.1 hm
  have e:s'=s:=by simp only [nmO,Ob.mk.injEq,true_and,and_true] at h2;exact h2
  subst e
  rw [← List.take_append_drop i ss] at h
  have h3:s' ∈ ss.drop i:=List.mem_of_getElem? (i:=0) (by rw [List.getElem?_drop];exact hs)
  exact (List.pairwise_append.1 h).2.2 s' h1 s' h3 rfl
 rw [q] at no
 omega
theorem c2A {h:List Cl} {s:List UInt8} (hl:s.length≤100):fits h (nmO s):=s7 ((F2 s false).2 hl) rfl
theorem b6w {h:List Cl} {ss:List (List UInt8)} (hl:∀ s ∈ ss,s.length≤100):∀ o ∈ ss.map nmO,fits h o:=by
 intro o ho
 obtain ⟨s,hs,rfl⟩:=List.mem_map.1 ho
 exact c2A (hl s hs)
theorem b7x {h:List Cl} {ss:List (List UInt8)} {vs:List Ob} {m:Int} (h0:0≤m) (h1:m≤200) (hl:ss.length=vs.length) (hm:(ss.length:Int)≤m) (hp:ss.Pairwise (·≠·)) (hs:∀ s ∈ ss,s.length≤100) (hv:∀ o ∈ vs,fits h o):S7 h (dct (ss.map nmO) vs m):=
 .inr (.inr (.inl ⟨rfl,rfl,rfl,rfl,h0,h1,by simpa [dct] using hl,by simpa [dct] using hm,b6w hs,hv,b5t hp⟩))
def a1f (h:List Cl):Prop:=a2t h∧(∀ c ∈ h,S7 h c)∧(0≤F8 0 h∧F8 0 h≤704+41*((h.length:Int) - 10))
theorem a1f.valid {h:List Cl} (t:a1f h):a5S h:=by
 have:=t.1.len
 exact ⟨t.2.1,by have:=t.2.2.2;omega⟩
theorem c0i {h:List Cl} {s:List UInt8} (h1:1≤s.length) (h2:s.length≤100):fits h (opO s):=by
 refine s7 ?_ rfl
 unfold opO Ob.right Ob.blank;simp;omega
theorem a6v {j:Nat} (h5:5≤j) (h9:j≤9):fits a1w (dO (j:Int)):=by
 refine ⟨b2z _ (by omega) (by omega),fun _=>⟨dct [] [] 10,?_,rfl,fun hx=>absurd rfl hx.1⟩⟩
 have:j=5∨j=6∨j=7∨j=8∨j=9:=by omega
 rcases this with rfl | rfl | rfl | rfl | rfl <;>rfl
theorem c2z:a1f a1w:=by
 refine ⟨⟨[],by simp,by simp,c0g⟩,?_,by decide,by decide⟩
 intro c hc
 simp only [a1w,List.mem_cons,List.not_mem_nil,or_false] at hc
 have e0:∀ m:Int,0≤m→m≤200→S7 a1w (dct [] [] m):=fun m h0 h1=>b7x (ss:=[]) h0 h1 rfl h0 .nil (by simp) (by simp)
 rcases hc with rfl | rfl | rfl | rfl | rfl | rfl | rfl | rfl | rfl | rfl
 ·refine b7x (ss:=[b3j,b3k]) (by decide) (by decide) rfl (by decide) (by decide) (by decide) ?_
  intro o ho
  simp only [List.mem_cons,List.not_mem_nil,or_false] at ho
  rcases ho with rfl | rfl <;>exact c0i (by decide) (by decide)
 ·exact e0 _ (by decide) (by decide)
 ·exact e0 _ (by decide) (by decide)
 ·exact e0 _ (by decide) (by decide)
 ·refine b7x (ss:=b6t) (by decide) (by decide) rfl (by decide) (by decide) (by decide) ?_
  intro o ho
  simp only [List.mem_cons,List.not_mem_nil,or_false] at ho
  rcases ho with rfl | rfl | rfl | rfl | rfl
  ·exact a6v (j:=5) (by decide) (by decide)
  ·exact a6v (j:=6) (by decide) (by decide)
  ·exact a6v (j:=7) (by decide) (by decide)
  ·exact a6v (j:=8) (by decide) (by decide)
  ·exact a6v (j:=9) (by decide) (by decide)
 all_goals exact e0 _ (by decide) (by decide)
def FV (h:List Cl) (r:List PV):Prop:=∃ o:Ob,r=i4 o∧fits h o∧o.n<9223372036854775808
theorem c3U {h:List Cl}:∀ {rr:List (List PV)},(∀ x ∈ rr,FV h x)→∃ l:List Ob,rr=l.map i4∧(∀ o ∈ l,fits h o)∧∀ o ∈ l,o.n<9223372036854775808
 | [],_=>⟨[],rfl,by simp,by simp⟩
 | r::rr,hx=>by
   obtain ⟨o,rfl,hf,hn⟩:=hx r (by simp)
   obtain ⟨l,rfl,hl,hm⟩:=c3U (rr:=rr) fun x h=>hx x (by simp [h])
   exact ⟨o::l,rfl,by simpa using ⟨hf,hl⟩,by simpa using ⟨hn,hm⟩⟩
theorem slV {h:List Cl} {q:PV} {m:Nat} (hs:SlF (FV h) q m):∃ l:List Ob,PV.le q (.sl 7 (l.map i4))∧l.length=m∧(∀ o ∈ l,fits h o)∧∀ o ∈ l,o.n<9223372036854775808:=by
 rcases hs with ⟨rfl,rfl⟩ | ⟨rr,rfl,h1,h3⟩
 ·exact ⟨[],.emp 7,rfl,by simp,by simp⟩
 ·obtain ⟨l,rfl,hl,hm⟩:=c3U h3
  exact ⟨l,.refl _,by simpa using h1,hl,hm⟩
def b0u (m:Nat):List (List UInt8):=(List.range m).map fun i:Nat=>a6U (i:Int)
theorem b9G {m:Nat} (hm:m≤5):(b0u m).Pairwise (·≠·)∧(∀ s ∈ b0u m,s.length≤100)∧(b0u m).length=m:=by
 have:m=0∨m=1∨m=2∨m=3∨m=4∨m=5:=by omega
 rcases this with rfl | rfl | rfl | rfl | rfl | rfl <;>exact ⟨by decide,by decide,by decide⟩
theorem c5P {q:PV} {m:Nat} (hs:SlK q m):PV.le q (.sl 7 (((b0u m).map nmO).map i4)):=by
 rcases hs with ⟨rfl,rfl⟩ | rfl
 ·exact .emp 7
 ·refine le_of_eq ?_
  unfold b0u
  rw [List.map_map,List.map_map]
  rfl
theorem c7K {ss:List (List UInt8)}:∀ o ∈ ss.map nmO,o.n<9223372036854775808:=by
 intro o ho
 obtain ⟨s,_,rfl⟩:=List.mem_map.1 ho
 show (0:Int)<_
 decide
theorem a8q {c:Cl} (hk:c.kind≠3) (h1:c.bytes.length+c.items.length≤100000):c.size=1+(c.bytes.length:Int)+c.items.length:=by
 unfold Cl.size
 rw [if_neg hk,wrap_small (v:=1+(c.bytes.length:Int)) (by omega) (by omega),wrap_small (by omega) (by omega)]
theorem b1o {c:Cl} (hb:Byl c.kind c.bytes c.items.length) (h1:c.items.length≤1000) (h2:c.keys.length≤1000) (h3:c.B2.length≤1000) (n1:∀ o ∈ c.items,o.n<9223372036854775808) (n2:∀ o ∈ c.keys,o.n<9223372036854775808) (n3:∀ o ∈ c.B2,o.n<9223372036854775808):a7l c:=
 ⟨⟨by omega,by omega,by omega,by have:=hb.1;omega⟩,n3,_,_,_,_,_,_,_,_,_,_,rfl,hb,b0t h1 n1,b0t h2 n2,b0t h3 n3⟩
theorem c2v {h:List Cl} {r:List PV} (hr:b0x (FV h) r):∃ c:Cl,E6 r (j8 c)∧a7l c∧S7 h c∧0≤c.size∧c.size≤41:=by
 rcases hr with ⟨s,h1,rfl⟩ | ⟨q,m,hm,hs,rfl⟩ | ⟨qk,qv,m,mx,h1,h2,hk,hv,rfl⟩ | ⟨s,a,mx,h1,h2,h3,h4,rfl⟩
 ·refine ⟨⟨1,s,[],[],[],0,0⟩,.cons (.refl _) (.cons (.refl _) (.cons (.emp 7) (.cons (.emp 7) (.cons (.emp 7) (.refl _))))),b1o ⟨by dsimp only;omega,fun _=>⟨by dsimp only;omega,rfl⟩,fun hk=>absurd hk (by simp)⟩ (by simp) (by simp) (by simp) (by simp) (by simp) (by simp),.inl ⟨rfl,by dsimp only;omega,rfl,rfl,rfl,rfl,rfl⟩,?_⟩
  rw [a8q (by simp) (by simp;omega)]
  simp;omega
 ·obtain ⟨l,e,hl,hf,hn⟩:=slV hs
  refine ⟨⟨2,[],l,[],[],0,0⟩,.cons (.refl _) (.cons (.refl _) (.cons e (.cons (.emp 7) (.cons (.emp 7) (.refl _))))),b1o ⟨by simp,fun hk=>absurd hk (by simp),fun _=>rfl⟩ (by dsimp only;omega) (by simp) (by simp) hn (by simp) (by simp),.inr (.inl ⟨rfl,rfl,by dsimp only;omega,hf,rfl,rfl,rfl,rfl⟩),?_⟩
  rw [a8q (by simp) (by simp;omega)]
  simp;omega
 ·obtain ⟨l,e,hl,hf,hn⟩:=slV hv
  obtain ⟨w1,w2,w3⟩:=b9G (m:=m) (by omega)
  refine ⟨dct ((b0u m).map nmO) l (mx:Int),.cons (.refl _) (.cons (.refl _) (.cons (.emp 7) (.cons (c5P hk) (.cons e (.refl _))))),b1o ⟨by simp [dct],fun hk=>absurd hk (by simp [dct]),fun _=>rfl⟩ (by simp [dct]) (by simp [dct,w3];omega) (by simp [dct];omega) (by simp [dct]) c7K hn,b7x (by omega) (by omega) (by omega) (by omega) w1 w2 hf,?_⟩
  unfold Cl.size dct
  dsimp only
  rw [if_pos rfl,if_neg (by omega),if_neg (by omega)]
  omega
 ·refine ⟨⟨4,s,[],[],[],mx,a⟩,.cons (.refl _) (.cons (.refl _) (.cons (.emp 7) (.cons (.emp 7) (.cons (.emp 7) (.refl _))))),b1o ⟨by dsimp only;omega,fun hk=>absurd hk (by simp),fun hk=>absurd hk (by simp)⟩ (by simp) (by simp) (by simp) (by simp) (by simp) (by simp),.inr (.inr (.inr ⟨rfl,by dsimp only;omega,rfl,rfl,rfl,h2,h3,h4⟩)),?_⟩
  rw [a8q (by simp) (by simp;omega)]
  simp;omega
theorem b4o {h:List Cl} {r:List PV} (hr:FV h r):a3A r:=by
 obtain ⟨o,rfl,_,hn⟩:=hr
 exact ⟨_,_,_,_,_,_,_,hn,rfl⟩
theorem c3V {h:List Cl} {q:PV} {m:Nat} (hs:SlF (FV h) q m) (hm:m≤1000):SlR q m:=by
 rcases hs with h1 | ⟨rr,e,hl,hf⟩
 ·exact .inl h1
 ·exact .inr ⟨rr,e,hl,hm,fun x hx=>b4o (hf x hx)⟩
theorem b7u {h:List Cl} {r:List PV} (hr:b0x (FV h) r):a3c r:=by
 rcases hr with ⟨s,h1,rfl⟩ | ⟨q,m,hm,hs,rfl⟩ | ⟨qk,qv,m,mx,h1,h2,hk,hv,rfl⟩ | ⟨s,a,mx,h1,h2,h3,h4,rfl⟩
 ·exact ⟨_,_,_,_,_,_,_,0,0,0,rfl,⟨by omega,fun _=>⟨by omega,rfl⟩,fun hk=>absurd hk (by decide)⟩,SlR.none,SlR.none,SlR.none⟩
 ·exact ⟨_,_,_,_,_,_,_,m,0,0,rfl,⟨by simp,fun hk=>absurd hk (by decide),fun _=>rfl⟩,c3V hs (by omega),SlR.none,SlR.none⟩
 ·refine ⟨_,_,_,_,_,_,_,0,m,m,rfl,⟨by simp,fun hk=>absurd hk (by decide),fun _=>rfl⟩,SlR.none,?_,c3V hv (by omega)⟩
  rcases hk with hk | rfl
  ·exact .inl hk
  ·refine .inr ⟨_,rfl,by simp,by omega,fun x hx=>?_⟩
   obtain ⟨i,_,rfl⟩:=List.mem_map.1 hx
   exact ⟨_,_,_,_,_,_,_,by decide,rfl⟩
 ·exact ⟨_,_,_,_,_,_,_,0,0,0,rfl,⟨by omega,fun hk=>absurd hk (by decide),fun hk=>absurd hk (by decide)⟩,SlR.none,SlR.none,SlR.none⟩
theorem b5u (C:Laid P) {h:List Cl} (t:a2t h) {H:List (List PV)} (e:LeR H (h.map j8)) (K A B N:Int) (S:List UInt8) (hA:0≤A∧A<256) (hB:0≤B∧B<256) (hN: -2147483648≤N∧N≤2147483647):∃ r,(FV h r∧a3A r)∧l3 P G j1 [a1m K A B N S,.sl 7 H] [] (.agg r):=by
 have f:FV h (i4 (a6H h K A B N)):=⟨_,rfl,b1O t K A B N hA hB hN,c0E h K A B N hA hN⟩
 exact ⟨_,⟨f,b4o f⟩,b4C (I1 C h t.small K A B N S hA hB hN) (.cons (.refl _) (.cons (c0v e) .nil))⟩
theorem a1f.app {h:List Cl} (t:a1f h) (hl:h.length<20) {c:Cl} (h1:a7l c) (h2:S7 h c) (h3:0≤c.size) (h4:c.size≤41):a1f (h++[c]):=by
 obtain ⟨⟨more,e,hm,hall⟩,hv,q1,q2⟩:=t
 have ml:h.length=10+more.length:=by rw [e,List.length_append];rfl
 refine ⟨⟨more++[c],by rw [e,List.append_assoc],by simp;omega,?_⟩,?_,?_⟩
 ·intro d hd
  rcases List.mem_append.1 hd with hd | hd
  ·exact hall d hd
  ·simp only [List.mem_singleton] at hd;subst hd;exact h1
 ·intro d hd
  rcases List.mem_append.1 hd with hd | hd
  ·exact a0c (fun o ho=>a6u ho) (hv d hd)
  ·simp only [List.mem_singleton] at hd;subst hd;exact a0c (fun o ho=>a6u ho) h2
 ·rw [a9G,wrap_small (by omega) (by omega),List.length_append]
  simp only [List.length_cons,List.length_nil]
  omega
end Go.Ab.Td
namespace Go.Ab.Td
set_option maxRecDepth 100000
open Go Go.Ab
variable {P:Program}
set_option linter.unusedSimpArgs false
attribute [local irreducible] e9
open Classical in
noncomputable def eqv (h:List Cl) (a b:Ob):Prop:=if ¬ fits h a∨¬ fits h b then False else if a.isNum∧b.isNum then a.val=b.val else if (oct h a).isSome=true∧(oct h b).isSome=true then (oct h a).getD []=(oct h b).getD [] else ({a with exec:=false}:Ob)={b with exec:=false}
end Go.Ab.Td
namespace Go.Ab.Td
set_option maxRecDepth 100000
open Go Go.Ab
variable {P:Program}
set_option linter.unusedSimpArgs false
attribute [local irreducible] e9
end Go.Ab.Td
namespace Go.Ab.Td
set_option maxRecDepth 100000
open Go Go.Ab
variable {P:Program}
set_option linter.unusedSimpArgs false
attribute [local irreducible] e9
end Go.Ab.Td
namespace Go.Ab.Td
set_option maxRecDepth 100000
set_option maxRecDepth 100000
open Go Go.Ab
variable {P:Program}
set_option linter.unusedSimpArgs false
attribute [local irreducible] e9
set_option maxHeartbeats 1000000 in
theorem I2 (C:Laid P) (l1 l2:List Ob) (hl:l1.length<2 ^ 62):l3 P G q9 [.sl 7 (List.map i4 l1),.sl 7 (List.map i4 l2)] [] (.bool (tt (l1=l2))):=by
 refine k8 C (a1B C) rfl ?_
 repeat' ((conv=>whnf);first | (with_reducible refine sC (by kernel_rfl) ?_) | ((first | (with_reducible first | refine sB ?_ | refine z7 ?_ | refine z8 ?_) | refine sP (by rfl) ?_);first | refine oT ?_ | refine oF ?_ | (refine Or.inr (Or.inr ⟨fun hsp=>?_,fun hsp=>?_⟩) <;>(try simp only [nm,List.length_map] at hsp) <;>try subst hsp)) | fail)
 all_goals (conv=>whnf)
 all_goals try (exact z9 (by intro e;subst e;simp_all))
 intro X hX hW
 refine a3T hX (fun st (a:Nat)=>st.upd [(5,.pv (pI (a:Int)))] []) (fun a m=>a+m=l1.length∧(l1.length=l2.length∧((l1=l2)=(l1.drop a=l2.drop a)))) 0 l1.length (by (conv=>whnf);first | done | rfl) (by simp;omega) ?_
 intro m i ih hI
 rcases a3I l1 i with ⟨x,hlt,hx⟩ | hge
 ·have hrow:=K4 (f:=i4) hx
  have hd:=a5r hx
  have hI2:=hI.2
  rw [hd] at hI2
  obtain ⟨y,hy⟩:∃ y,l2[i]?=some y:=⟨_,List.getElem?_eq_getElem (by omega)⟩
  have hrow2:=K4 (f:=i4) hy
  have hd2:=a5r hy
  rw [hd2,List.cons.injEq] at hI2
  repeat' ((conv=>whnf);first | (with_reducible refine sC (by kernel_rfl) ?_) | ((first | (with_reducible first | refine sB ?_ | refine z7 ?_ | refine z8 ?_) | refine sP (by rfl) ?_);first | refine oT ?_ | refine oF ?_ | (refine Or.inr (Or.inr ⟨fun hsp=>?_,fun hsp=>?_⟩) <;>(try simp only [nm,List.length_map] at hsp) <;>try subst hsp)) | refine sS (e7 (by rfl) (by rfl) (by omega) hrow) ?_ | refine sS (e7 (by rfl) (by rfl) (by omega) hrow2) ?_ | fail)
  all_goals (conv=>whnf)
  all_goals first
   | (refine ih (m - 1) (i+1) _ (by omega) ⟨by (try dsimp only);omega,?_⟩ (by (conv=>whnf);first | done | rfl | (simp (disch:=omega) only [P9])))
   | (with_reducible first | refine l0 ?_ | refine A9 ?_ | refine z9 ?_)
   | (refine A8 ?_;simp only [nm])
   | refine le_of_eq ?_
  all_goals (first | (have hd2:l2.drop i=[]:=List.drop_eq_nil_of_le (by omega);grind) | grind)
 ·have hd:l1.drop i=[]:=List.drop_eq_nil_of_le hge
  have hI2:=hI.2
  rw [hd] at hI2
  repeat' ((conv=>whnf);first | (with_reducible refine sC (by kernel_rfl) ?_) | ((first | (with_reducible first | refine sB ?_ | refine z7 ?_ | refine z8 ?_) | refine sP (by rfl) ?_);first | refine oT ?_ | refine oF ?_ | (refine Or.inr (Or.inr ⟨fun hsp=>?_,fun hsp=>?_⟩) <;>(try simp only [nm,List.length_map] at hsp) <;>try subst hsp)) | fail)
  all_goals (conv=>whnf)
  all_goals first
   | (with_reducible first | refine l0 ?_ | refine A9 ?_ | refine z9 ?_)
   | (refine A8 ?_;simp only [nm])
   | refine le_of_eq ?_
  all_goals (first | (have hd2:l2.drop i=[]:=List.drop_eq_nil_of_le (by omega);grind) | grind)
end Go.Ab.Td

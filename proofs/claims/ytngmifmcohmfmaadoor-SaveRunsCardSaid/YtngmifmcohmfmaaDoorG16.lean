/- A part of the proof: the texts TdVe, TdRK, TdEq, TdEr, TdRL, TdArg, TdFw, TdAl, TdAk, TdW11, TdHa, TdLr, TdSm. Under: nothing. -/
import Derived.Test.YtngmifmcohmfmaaDoorG12
import Derived.Test.YtngmifmcohmfmaaDoorG14
import Derived.Test.YtngmifmcohmfmaaDoorG15
import Derived.Test.YtngmifmcohmfmaaDoorG13
import Derived.Test.YtngmifmcohmfmaaDoorG05
import Derived.Test.YtngmifmcohmfmaaDoorG07
import Derived.KernelRfl
namespace Go.Ab.Td
set_option maxRecDepth 100000
set_option maxRecDepth 100000
open Go Go.Ab
variable {P:Program}
set_option linter.unusedSimpArgs false
theorem c2n (s:List UInt8):(nmO s).key=nmO s:=by simp [Ob.key,nmO]
theorem b6J {ss:List (List UInt8)} (h:ss.Pairwise (·≠·)):b5b (ss.map nmO):=by
 intro i k hk
 rw [List.getElem?_map,Option.map_eq_some_iff] at hk
 obtain ⟨s,hs,rfl⟩:=hk
 refine ⟨by simp [nmO],by simp [nmO],c2n s,?_⟩
 have q:=a5e (nmO s) (ss.map nmO) i 0 (by rw [List.getElem?_map,hs];rfl)
 have no:¬ nmO s ∈ (ss.map nmO).take i:=by
  intro hm
  rw [← List.map_take] at hm
  obtain ⟨s',h1,h2⟩:=List.mem_map.1 hm
  have e:s'=s:=by simp only [nmO,Ob.mk.injEq,true_and,and_true] at h2;exact h2
  subst e
  rw [← List.take_append_drop i ss] at h
  have h3:s' ∈ ss.drop i:=List.mem_of_getElem? (i:=0) (by rw [List.getElem?_drop];exact hs)
  exact (List.pairwise_append.1 h).2.2 s' h1 s' h3 rfl
 rw [q] at no
 omega
theorem b9e {h:List Cl} {s:List UInt8} (hl:s.length≤100):fits h (nmO s):=v8 ((c2c s false).2 hl) rfl
theorem b8x {h:List Cl} {ss:List (List UInt8)} (hl:∀ s ∈ ss,s.length≤100):∀ o ∈ ss.map nmO,fits h o:=by
 intro o ho
 obtain ⟨s,hs,rfl⟩:=List.mem_map.1 ho
 exact b9e (hl s hs)
theorem b9m {h:List Cl} {ss:List (List UInt8)} {vs:List Ob} {m:Int} (h0:0≤m) (h1:m≤200) (hl:ss.length=vs.length) (hm:(ss.length:Int)≤m) (hp:ss.Pairwise (·≠·)) (hs:∀ s ∈ ss,s.length≤100) (hv:∀ o ∈ vs,fits h o):Y5 h (dct (ss.map nmO) vs m):=
 .inr (.inr (.inl ⟨rfl,rfl,rfl,rfl,h0,h1,by simpa [dct] using hl,by simpa [dct] using hm,b8x hs,hv,b6J hp⟩))
def a6U (h:List Cl):Prop:=a2E h∧(∀ c ∈ h,Y5 h c)∧(0≤o0 0 h∧o0 0 h≤704+41*((h.length:Int) - 10))
theorem a6U.valid {h:List Cl} (t:a6U h):W1 h:=by
 have:=t.1.len
 exact ⟨t.2.1,by have:=t.2.2.2;omega⟩
theorem c3p {h:List Cl} {s:List UInt8} (h1:1≤s.length) (h2:s.length≤100):fits h (opO s):=by
 refine v8 ?_ rfl
 unfold opO Ob.right Ob.blank;simp;omega
theorem a6E {j:Nat} (h5:5≤j) (h9:j≤9):fits a1x (dO (j:Int)):=by
 refine ⟨b8q _ (by omega) (by omega),fun _=>⟨dct [] [] 10,?_,rfl,fun hx=>absurd rfl hx.1⟩⟩
 have:j=5∨j=6∨j=7∨j=8∨j=9:=by omega
 rcases this with rfl | rfl | rfl | rfl | rfl <;>rfl
theorem c5g:a6U a1x:=by
 refine ⟨⟨[],by simp,by simp,c3L⟩,?_,by decide,by decide⟩
 intro c hc
 simp only [a1x,List.mem_cons,List.not_mem_nil,or_false] at hc
 have e0:∀ m:Int,0≤m→m≤200→Y5 a1x (dct [] [] m):=fun m h0 h1=>b9m (ss:=[]) h0 h1 rfl h0 .nil (by simp) (by simp)
 rcases hc with rfl | rfl | rfl | rfl | rfl | rfl | rfl | rfl | rfl | rfl
 ·refine b9m (ss:=[b4a,b4i]) (by decide) (by decide) rfl (by decide) (by decide) (by decide) ?_
  intro o ho
  simp only [List.mem_cons,List.not_mem_nil,or_false] at ho
  rcases ho with rfl | rfl <;>exact c3p (by decide) (by decide)
 ·exact e0 _ (by decide) (by decide)
 ·exact e0 _ (by decide) (by decide)
 ·exact e0 _ (by decide) (by decide)
 ·refine b9m (ss:=b8Q) (by decide) (by decide) rfl (by decide) (by decide) (by decide) ?_
  intro o ho
  simp only [List.mem_cons,List.not_mem_nil,or_false] at ho
  rcases ho with rfl | rfl | rfl | rfl | rfl
  ·exact a6E (j:=5) (by decide) (by decide)
  ·exact a6E (j:=6) (by decide) (by decide)
  ·exact a6E (j:=7) (by decide) (by decide)
  ·exact a6E (j:=8) (by decide) (by decide)
  ·exact a6E (j:=9) (by decide) (by decide)
 all_goals exact e0 _ (by decide) (by decide)
def FV (h:List Cl) (r:List PV):Prop:=∃ o:Ob,r=i6 o∧fits h o∧o.n<9223372036854775808
theorem c5z {h:List Cl}:∀ {rr:List (List PV)},(∀ x ∈ rr,FV h x)→∃ l:List Ob,rr=l.map i6∧(∀ o ∈ l,fits h o)∧∀ o ∈ l,o.n<9223372036854775808
 | [],_=>⟨[],rfl,by simp,by simp⟩
 | r::rr,hx=>by
   obtain ⟨o,rfl,hf,hn⟩:=hx r (by simp)
   obtain ⟨l,rfl,hl,hm⟩:=c5z (rr:=rr) fun x h=>hx x (by simp [h])
   exact ⟨o::l,rfl,by simpa using ⟨hf,hl⟩,by simpa using ⟨hn,hm⟩⟩
theorem slV {h:List Cl} {q:PV} {m:Nat} (hs:SlF (FV h) q m):∃ l:List Ob,PV.le q (.sl 7 (l.map i6))∧l.length=m∧(∀ o ∈ l,fits h o)∧∀ o ∈ l,o.n<9223372036854775808:=by
 rcases hs with ⟨rfl,rfl⟩ | ⟨rr,rfl,h1,h3⟩
 ·exact ⟨[],.emp 7,rfl,by simp,by simp⟩
 ·obtain ⟨l,rfl,hl,hm⟩:=c5z h3
  exact ⟨l,.refl _,by simpa using h1,hl,hm⟩
def b0M (m:Nat):List (List UInt8):=(List.range m).map fun i:Nat=>a7a (i:Int)
theorem c0G {m:Nat} (hm:m≤5):(b0M m).Pairwise (·≠·)∧(∀ s ∈ b0M m,s.length≤100)∧(b0M m).length=m:=by
 have:m=0∨m=1∨m=2∨m=3∨m=4∨m=5:=by omega
 rcases this with rfl | rfl | rfl | rfl | rfl | rfl <;>exact ⟨by decide,by decide,by decide⟩
theorem c8q {q:PV} {m:Nat} (hs:SlK q m):PV.le q (.sl 7 (((b0M m).map nmO).map i6)):=by
 rcases hs with ⟨rfl,rfl⟩ | rfl
 ·exact .emp 7
 ·refine le_of_eq ?_
  unfold b0M
  rw [List.map_map,List.map_map]
  rfl
theorem c8X {ss:List (List UInt8)}:∀ o ∈ ss.map nmO,o.n<9223372036854775808:=by
 intro o ho
 obtain ⟨s,_,rfl⟩:=List.mem_map.1 ho
 show (0:Int)<_
 decide
theorem a8v {c:Cl} (hk:c.kind≠3) (h1:c.bytes.length+c.items.length≤100000):c.size=1+(c.bytes.length:Int)+c.items.length:=by
 unfold Cl.size
 rw [if_neg hk,wrap_small (v:=1+(c.bytes.length:Int)) (by omega) (by omega),wrap_small (by omega) (by omega)]
theorem b1T {c:Cl} (hb:Byl c.kind c.bytes c.items.length) (h1:c.items.length≤1000) (h2:c.keys.length≤1000) (h3:c.w7.length≤1000) (n1:∀ o ∈ c.items,o.n<9223372036854775808) (n2:∀ o ∈ c.keys,o.n<9223372036854775808) (n3:∀ o ∈ c.w7,o.n<9223372036854775808):a7O c:=
 ⟨⟨by omega,by omega,by omega,by have:=hb.1;omega⟩,n3,_,_,_,_,_,_,_,_,_,_,rfl,hb,b0i h1 n1,b0i h2 n2,b0i h3 n3⟩
theorem b9h {h:List Cl} {r:List PV} (hr:b0Y (FV h) r):∃ c:Cl,H8 r (j9 c)∧a7O c∧Y5 h c∧0≤c.size∧c.size≤41:=by
 rcases hr with ⟨s,h1,rfl⟩ | ⟨q,m,hm,hs,rfl⟩ | ⟨qk,qv,m,mx,h1,h2,hk,hv,rfl⟩ | ⟨s,a,mx,h1,h2,h3,h4,rfl⟩
 ·refine ⟨⟨1,s,[],[],[],0,0⟩,.cons (.refl _) (.cons (.refl _) (.cons (.emp 7) (.cons (.emp 7) (.cons (.emp 7) (.refl _))))),b1T ⟨by dsimp only;omega,fun _=>⟨by dsimp only;omega,rfl⟩,fun hk=>absurd hk (by simp)⟩ (by simp) (by simp) (by simp) (by simp) (by simp) (by simp),.inl ⟨rfl,by dsimp only;omega,rfl,rfl,rfl,rfl,rfl⟩,?_⟩
  rw [a8v (by simp) (by simp;omega)]
  simp;omega
 ·obtain ⟨l,e,hl,hf,hn⟩:=slV hs
  refine ⟨⟨2,[],l,[],[],0,0⟩,.cons (.refl _) (.cons (.refl _) (.cons e (.cons (.emp 7) (.cons (.emp 7) (.refl _))))),b1T ⟨by simp,fun hk=>absurd hk (by simp),fun _=>rfl⟩ (by dsimp only;omega) (by simp) (by simp) hn (by simp) (by simp),.inr (.inl ⟨rfl,rfl,by dsimp only;omega,hf,rfl,rfl,rfl,rfl⟩),?_⟩
  rw [a8v (by simp) (by simp;omega)]
  simp;omega
 ·obtain ⟨l,e,hl,hf,hn⟩:=slV hv
  obtain ⟨w1,w2,w3⟩:=c0G (m:=m) (by omega)
  refine ⟨dct ((b0M m).map nmO) l (mx:Int),.cons (.refl _) (.cons (.refl _) (.cons (.emp 7) (.cons (c8q hk) (.cons e (.refl _))))),b1T ⟨by simp [dct],fun hk=>absurd hk (by simp [dct]),fun _=>rfl⟩ (by simp [dct]) (by simp [dct,w3];omega) (by simp [dct];omega) (by simp [dct]) c8X hn,b9m (by omega) (by omega) (by omega) (by omega) w1 w2 hf,?_⟩
  unfold Cl.size dct
  dsimp only
  rw [if_pos rfl,if_neg (by omega),if_neg (by omega)]
  omega
 ·refine ⟨⟨4,s,[],[],[],mx,a⟩,.cons (.refl _) (.cons (.refl _) (.cons (.emp 7) (.cons (.emp 7) (.cons (.emp 7) (.refl _))))),b1T ⟨by dsimp only;omega,fun hk=>absurd hk (by simp),fun hk=>absurd hk (by simp)⟩ (by simp) (by simp) (by simp) (by simp) (by simp) (by simp),.inr (.inr (.inr ⟨rfl,by dsimp only;omega,rfl,rfl,rfl,h2,h3,h4⟩)),?_⟩
  rw [a8v (by simp) (by simp;omega)]
  simp;omega
theorem b1P {h:List Cl} {r:List PV} (hr:FV h r):a3G r:=by
 obtain ⟨o,rfl,_,hn⟩:=hr
 exact ⟨_,_,_,_,_,_,_,hn,rfl⟩
theorem c5D {h:List Cl} {q:PV} {m:Nat} (hs:SlF (FV h) q m) (hm:m≤1000):SlR q m:=by
 rcases hs with h1 | ⟨rr,e,hl,hf⟩
 ·exact .inl h1
 ·exact .inr ⟨rr,e,hl,hm,fun x hx=>b1P (hf x hx)⟩
theorem b9A {h:List Cl} {r:List PV} (hr:b0Y (FV h) r):a3q r:=by
 rcases hr with ⟨s,h1,rfl⟩ | ⟨q,m,hm,hs,rfl⟩ | ⟨qk,qv,m,mx,h1,h2,hk,hv,rfl⟩ | ⟨s,a,mx,h1,h2,h3,h4,rfl⟩
 ·exact ⟨_,_,_,_,_,_,_,0,0,0,rfl,⟨by omega,fun _=>⟨by omega,rfl⟩,fun hk=>absurd hk (by decide)⟩,SlR.none,SlR.none,SlR.none⟩
 ·exact ⟨_,_,_,_,_,_,_,m,0,0,rfl,⟨by simp,fun hk=>absurd hk (by decide),fun _=>rfl⟩,c5D hs (by omega),SlR.none,SlR.none⟩
 ·refine ⟨_,_,_,_,_,_,_,0,m,m,rfl,⟨by simp,fun hk=>absurd hk (by decide),fun _=>rfl⟩,SlR.none,?_,c5D hv (by omega)⟩
  rcases hk with hk | rfl
  ·exact .inl hk
  ·refine .inr ⟨_,rfl,by simp,by omega,fun x hx=>?_⟩
   obtain ⟨i,_,rfl⟩:=List.mem_map.1 hx
   exact ⟨_,_,_,_,_,_,_,by decide,rfl⟩
 ·exact ⟨_,_,_,_,_,_,_,0,0,0,rfl,⟨by omega,fun hk=>absurd hk (by decide),fun hk=>absurd hk (by decide)⟩,SlR.none,SlR.none,SlR.none⟩
theorem b7n (C:Laid P) {h:List Cl} (t:a2E h) {H:List (List PV)} (e:LeR H (h.map j9)) (K A B N:Int) (S:List UInt8) (hA:0≤A∧A<256) (hB:0≤B∧B<256) (hN: -2147483648≤N∧N≤2147483647):∃ r,(FV h r∧a3G r)∧j7 P G e6 [C6 K A B N S,.sl 7 H] [] (.agg r):=by
 have f:FV h (i6 (b0c h K A B N)):=⟨_,rfl,b7a t K A B N hA hB hN,b9H h K A B N hA hN⟩
 exact ⟨_,⟨f,b1P f⟩,a9j (S6 C h t.small K A B N S hA hB hN) (.cons (.refl _) (.cons (b9j e) .nil))⟩
theorem a6U.app {h:List Cl} (t:a6U h) (hl:h.length<20) {c:Cl} (h1:a7O c) (h2:Y5 h c) (h3:0≤c.size) (h4:c.size≤41):a6U (h++[c]):=by
 obtain ⟨⟨more,e,hm,hall⟩,hv,q1,q2⟩:=t
 have ml:h.length=10+more.length:=by rw [e,List.length_append];rfl
 refine ⟨⟨more++[c],by rw [e,List.append_assoc],by simp;omega,?_⟩,?_,?_⟩
 ·intro d hd
  rcases List.mem_append.1 hd with hd | hd
  ·exact hall d hd
  ·simp only [List.mem_singleton] at hd;subst hd;exact h1
 ·intro d hd
  rcases List.mem_append.1 hd with hd | hd
  ·exact a1C (fun o ho=>a9k ho) (hv d hd)
  ·simp only [List.mem_singleton] at hd;subst hd;exact a1C (fun o ho=>a9k ho) h2
 ·rw [b6o,wrap_small (by omega) (by omega),List.length_append]
  simp only [List.length_cons,List.length_nil]
  omega
end Go.Ab.Td
namespace Go.Ab.Td
set_option maxRecDepth 100000
open Go Go.Ab
variable {P:Program}
set_option linter.unusedSimpArgs false
attribute [local irreducible] f0
open Classical in
noncomputable def eqv (h:List Cl) (a b:Ob):Prop:=if ¬ fits h a∨¬ fits h b then False else if a.isNum∧b.isNum then a.val=b.val else if (oct h a).isSome=true∧(oct h b).isSome=true then (oct h a).getD []=(oct h b).getD [] else ({a with exec:=false}:Ob)={b with exec:=false}
end Go.Ab.Td
namespace Go.Ab.Td
set_option maxRecDepth 100000
open Go Go.Ab
variable {P:Program}
set_option linter.unusedSimpArgs false
attribute [local irreducible] f0
end Go.Ab.Td
namespace Go.Ab.Td
set_option maxRecDepth 100000
open Go Go.Ab
variable {P:Program}
set_option linter.unusedSimpArgs false
attribute [local irreducible] f0
end Go.Ab.Td
namespace Go.Ab.Td
set_option maxRecDepth 100000
set_option maxRecDepth 100000
open Go Go.Ab
variable {P:Program}
set_option linter.unusedSimpArgs false
attribute [local irreducible] f0
theorem c2Q {h:List Cl} {o:Ob} (hv:a8F h o [7,8]=0):(0≤o.ref∧o.ref<h.length)∧(0≤o.off∧0≤o.len∧o.off+o.len≤1000)∧o.off+o.len≤(cellAt h o).items.length:=by
 obtain ⟨⟨hr1,hr2⟩,⟨hf1,hf2,hf3⟩,hk,hc⟩:=b2E hv
 have hk7:o.kind=7∨o.kind=8:=by simpa using hk
 have hck:H2 o.kind=2:=by unfold H2;rw [if_neg (by omega),if_pos hk7]
 obtain ⟨hc3,hc4,hc5⟩:=hc.resolve_left (by rw [hck];decide)
 refine ⟨⟨hr1,by omega⟩,⟨hf1,hf2,hf3⟩,?_⟩
 rcases hc5 with h5 | h5 | h5
 ·omega
 ·omega
 ·rw [hck] at hc4
  simpa [Cl.length,hc4] using h5
open Classical in
noncomputable def b9b (o:Ob) (off n:Int):Ob × Int:=
 if ¬ o.right then (ob0,2) else if o.kind≠6∧o.kind≠7∧o.kind≠8 then (ob0,22)
 else if off<0∨n<0∨off>o.len∨n>IntKind.i64.wrap (o.len - off) then (ob0,23) else ({o with off:=IntKind.i64.wrap (o.off+off),len:=n},0)
set_option maxHeartbeats 1000000 in
theorem K4 (C:Laid P) (l1 l2:List Ob) (hl:l1.length<2 ^ 62):j7 P G u2 [.sl 7 (List.map i6 l1),.sl 7 (List.map i6 l2)] [] (.bool (tt (l1=l2))):=by
 refine i5 C (a1G C) rfl ?_
 repeat' ((conv=>whnf);first | (with_reducible refine sC (by kernel_rfl) ?_) | ((first | (with_reducible first | refine sB ?_ | refine o8 ?_ | refine o7 ?_) | refine sP (by rfl) ?_);first | refine oT ?_ | refine oF ?_ | (refine Or.inr (Or.inr ⟨fun hsp=>?_,fun hsp=>?_⟩) <;>(try simp only [nm,List.length_map] at hsp) <;>try subst hsp)) | fail)
 all_goals (conv=>whnf)
 all_goals try (exact x6 (by intro e;subst e;simp_all))
 intro X hX hW
 refine a2x hX (fun st (a:Nat)=>st.upd [(5,.pv (pI (a:Int)))] []) (fun a m=>a+m=l1.length∧(l1.length=l2.length∧((l1=l2)=(l1.drop a=l2.drop a)))) 0 l1.length (by (conv=>whnf);first | done | rfl) (by simp;omega) ?_
 intro m i ih hI
 rcases a0E l1 i with ⟨x,hlt,hx⟩ | hge
 ·have hrow:=y2 (f:=i6) hx
  have hd:=Z7 hx
  have hI2:=hI.2
  rw [hd] at hI2
  obtain ⟨y,hy⟩:∃ y,l2[i]?=some y:=⟨_,List.getElem?_eq_getElem (by omega)⟩
  have hrow2:=y2 (f:=i6) hy
  have hd2:=Z7 hy
  rw [hd2,List.cons.injEq] at hI2
  repeat' ((conv=>whnf);first | (with_reducible refine sC (by kernel_rfl) ?_) | ((first | (with_reducible first | refine sB ?_ | refine o8 ?_ | refine o7 ?_) | refine sP (by rfl) ?_);first | refine oT ?_ | refine oF ?_ | (refine Or.inr (Or.inr ⟨fun hsp=>?_,fun hsp=>?_⟩) <;>(try simp only [nm,List.length_map] at hsp) <;>try subst hsp)) | refine sS (e7 (by rfl) (by rfl) (by omega) hrow) ?_ | refine sS (e7 (by rfl) (by rfl) (by omega) hrow2) ?_ | fail)
  all_goals (conv=>whnf)
  all_goals first
   | (refine ih (m - 1) (i+1) _ (by omega) ⟨by (try dsimp only);omega,?_⟩ (by (conv=>whnf);first | done | rfl | (simp (disch:=omega) only [p9])))
   | (with_reducible first | refine k7 ?_ | refine z6 ?_ | refine x6 ?_)
   | (refine z9 ?_;simp only [nm])
   | refine le_of_eq ?_
  all_goals (first | (have hd2:l2.drop i=[]:=List.drop_eq_nil_of_le (by omega);grind) | grind)
 ·have hd:l1.drop i=[]:=List.drop_eq_nil_of_le hge
  have hI2:=hI.2
  rw [hd] at hI2
  repeat' ((conv=>whnf);first | (with_reducible refine sC (by kernel_rfl) ?_) | ((first | (with_reducible first | refine sB ?_ | refine o8 ?_ | refine o7 ?_) | refine sP (by rfl) ?_);first | refine oT ?_ | refine oF ?_ | (refine Or.inr (Or.inr ⟨fun hsp=>?_,fun hsp=>?_⟩) <;>(try simp only [nm,List.length_map] at hsp) <;>try subst hsp)) | fail)
  all_goals (conv=>whnf)
  all_goals first
   | (with_reducible first | refine k7 ?_ | refine z6 ?_ | refine x6 ?_)
   | (refine z9 ?_;simp only [nm])
   | refine le_of_eq ?_
  all_goals (first | (have hd2:l2.drop i=[]:=List.drop_eq_nil_of_le (by omega);grind) | grind)
end Go.Ab.Td
namespace Go.Ab.Td
set_option maxRecDepth 100000
set_option maxRecDepth 100000
open Go Go.Ab Go.ChangeShapes
def a6f:List Ty:=[.int .u8,.int .u8,.int .u8,.int .i32,.str]
def b9z:List Ty:=[.sl a6f,.sl a6f,.sl [.int .u8]]
theorem b9k {n:Int} (h:(Lit.int .u8 n).wf=true):0≤n∧n<256:=by
 simp only [Lit.wf,Bool.and_eq_true,IntKind.min,IntKind.max,IntKind.signed,IntKind.bits] at h
 simp at h
 omega
theorem c6r {n:Int} (h:(Lit.int .i32 n).wf=true): -2147483648≤n∧n≤2147483647:=by
 simp only [Lit.wf,Bool.and_eq_true,IntKind.min,IntKind.max,IntKind.signed,IntKind.bits] at h
 simp at h
 omega
def b7L (qs:List PV) (ts:List Ty):Prop:=qs.length=ts.length∧∀ (j:Nat) (q:PV) (t:Ty),qs[j]?=some q→ts[j]?=some t→Has t q
theorem b7L.split {qs:List PV} {ts r:List Ty} (h:b7L qs (ts++r)):∃ a b,qs=a++b∧b7L a ts∧b7L b r:=by
 obtain ⟨hl,h⟩:=h
 simp only [List.length_append] at hl
 refine ⟨qs.take ts.length,qs.drop ts.length,(List.take_append_drop _ _).symm,⟨by simp;omega,fun j q t hq ht=>?_⟩,⟨by simp;omega,fun j q t hq ht=>?_⟩⟩
 ·have hj:j<ts.length:=(List.getElem?_eq_some_iff.1 ht).1
  rw [List.getElem?_take_of_lt hj] at hq
  exact h j q t hq (by rw [List.getElem?_append_left hj];exact ht)
 ·rw [List.getElem?_drop] at hq
  exact h _ q t hq (by rw [List.getElem?_append_right (by omega),Nat.add_sub_cancel_left];exact ht)
structure Wd where
 K:Int
 A:Int
 B:Int
 N:Int
 S:List UInt8
 hA:0≤A∧A<256
 hB:0≤B∧B<256
 hN: -2147483648≤N∧N≤2147483647
def Wd.row (w:Wd):List PV:=[.int .u8 w.K,.int .u8 w.A,.int .u8 w.B,.int .i32 w.N,.str w.S]
theorem c5B {qs:List PV} (h:b7L qs a6f):∃ w:Wd,qs=w.row:=by
 obtain ⟨hl,h⟩:=h
 match qs,hl with
 | [a,b,c,d,e],_=>
   have k0:=h 0 _ _ rfl rfl
   have k1:=h 1 _ _ rfl rfl
   have k2:=h 2 _ _ rfl rfl
   have k3:=h 3 _ _ rfl rfl
   have k4:=h 4 _ _ rfl rfl
   cases k0 with
   | int w0=>
   cases k1 with
   | int w1=>
   cases k2 with
   | int w2=>
   cases k3 with
   | int w3=>
   cases k4 with
   | str w4=>exact ⟨⟨_,_,_,_,_,b9k w1,b9k w2,c6r w3⟩,rfl⟩
end Go.Ab.Td
namespace Go.Ab.Td
set_option maxRecDepth 100000
open Go Go.Ab
variable {P:Program}
set_option linter.unusedSimpArgs false
attribute [local irreducible] f0
end Go.Ab.Td
namespace Go.Ab.Td
set_option maxRecDepth 100000
open Go Go.Ab
end Go.Ab.Td
namespace Go.Ab.Td
set_option maxRecDepth 100000
open Go Go.Ab
end Go.Ab.Td
namespace Go.Ab.Td.TdW11
set_option maxRecDepth 100000
set_option maxRecDepth 100000
open Go Go.Ab Go.Ab.Td
variable {P:Program}
set_option linter.unusedSimpArgs false
def a0C:TF:=(.node (.node (.node (.node (.node (.node (.node .nil (.node (.leaf T8 a4m) (.leaf H4 a0V))) (.leaf J8 a5I)) (.node (.leaf P5 a2X) (.leaf y6 B9))) (.node (.node .nil (.node (.leaf a5B a8H) (.leaf n6 T3))) (.leaf u4 H6))) (.node (.node (.leaf G4 T0) (.leaf N2 a3v)) (.node (.node (.leaf o3 N4) (.node (.node (.leaf a2L a5F) (.leaf x5 C4)) .nil)) (.node (.leaf Y1 a4n) (.node (.node (.leaf P3 a2T) (.leaf C2 G9)) .nil))))) (.node (.node (.node (.leaf N9 a6W) (.node (.leaf s7 P1) (.leaf D3 L1))) (.node (.node (.leaf y8 Y0) (.node (.leaf D5 a1d) (.leaf F7 X3))) (.leaf I8 Y9))) (.node (.node (.node .nil (.node (.node (.leaf B0 a2h) (.leaf u3 E8)) (.leaf D2 T9))) (.leaf u6 B8)) (.node (.node (.leaf x7 M1) (.node (.leaf L8 W2) (.leaf V4 a1q))) (.leaf a2O a5W))))) (.node (.node (.node (.node (.node (.leaf O5 a2Y) (.leaf F6 a2J)) (.node (.leaf Y3 a1L) (.leaf M4 a0O))) (.leaf A9 Q0)) (.node (.node (.node .nil (.node (.leaf p8 D7) (.leaf K0 a0Z))) .nil) (.node (.leaf D8 J7) (.leaf V3 a2V)))) (.node (.node (.node (.node .nil (.node (.node (.leaf N8 a3U) (.leaf C0 R3)) (.leaf F3 a5X))) (.node .nil (.node (.leaf Q5 Z1) (.leaf U2 a1e)))) (.leaf N1 U7)) (.node (.node (.node .nil (.node (.leaf m7 A3) (.leaf G7 a0a))) (.leaf A8 S2)) (.node (.node (.leaf E6 L6) (.node (.leaf a2G a5y) (.leaf X8 a4x))) (.node .nil (.node (.node (.leaf a0k a5E) (.leaf E2 S0)) .nil)))))))
def a0P:TF:=(.leaf a0I a3p)
def b3i:TF:=(.leaf U2 a1e)
def b3j:TF:=(.leaf x5 C4)
def ext (_:Nat):Option a3n:=none
theorem c3w (C:Laid P):a0C.all (b9 P)=true:=by simp only [a0C,TF.all,b4w C,a8X C,a6i C,a6K C,a3X C,b7U C,b5q C,a7R C,b6k C,a6u C,a9c C,b5k C,b3s C,b1l C,a9m C,b6I C,b5g C,a4j C,a2g C,a3F C,a0F C,Z3 C,a1U C,b0o C,b3S C,a7j C,a6T C,a4B C,a4U C,a1F C,a2j C,a1D C,a2C C,a5Z C,a7Y C,a0m C,a1l C,a0Y C,K9 C,M0 C,D9 C,a3j C,a1s C,R6 C,a3I C,a2n C,a6m C,H7 C,a0K C,R5 C,Z8 C,a5K C,a0D C,a3A C,Bool.and_self]
theorem c2W (C:Laid P):a0P.all (b9 P)=true:=by simp only [a0P,TF.all,b2H C,Bool.and_self]
theorem c3k (C:Laid P):b3i.all (b9 P)=true:=by simp only [b3i,TF.all,a7j C,Bool.and_self]
theorem a8t (C:Laid P):O4 P x5 C4=true:=by
 unfold O4
 rw [a1s C]
 kernel_rfl
theorem c2S (C:Laid P):b3j.all (O4 P)=true:=by simp only [b3j,TF.all,a8t C,Bool.and_self]
theorem b7N:a4T P G fun g=>(ext g).map a6M:=by
 intro g h hg
 cases hg
theorem a9S:∀ g ps own r,kn0 g ps=some (own,r)→j7 P G g ps own r:=fun _ _ _ _ h=>by cases h
theorem run:isR [] (.bool true) ((a4S G kn0 ext b3i.fn b3j.fn a0C.fn a0P.fn 10000 20).call Y1 [])=true:=by kernel_rfl
theorem ok (C:Laid P):j7 P G Y1 [] [] (.bool true):=a7B C.mixed a9S b7N (TF.b8 (c3k C)) (TF.b8 (c2S C)) (TF.b8 (c3w C)) (TF.b8 (c2W C)) (b6w run)
end Go.Ab.Td.TdW11
namespace Go.Ab.Td
set_option maxRecDepth 100000
open Go Go.Ab
variable {P:Program}
set_option linter.unusedSimpArgs false
attribute [local irreducible] f0
end Go.Ab.Td
namespace Go.Ab.Td
set_option maxRecDepth 100000
open Go Go.Ab
variable {P:Program}
set_option linter.unusedSimpArgs false
attribute [local irreducible] f0
end Go.Ab.Td
namespace Go.Ab.Td
set_option maxRecDepth 100000
set_option maxRecDepth 100000
open Go Go.Ab
variable {P:Program}
set_option linter.unusedSimpArgs false
attribute [local irreducible] f0
theorem Cl.ext' (a b:Cl):(a=b)=(a.kind=b.kind∧a.bytes=b.bytes∧a.items=b.items∧a.keys=b.keys∧a.w7=b.w7∧a.max=b.max∧a.at'=b.at'):=by
 cases a;cases b;simp
def c7a (c:Cl):Prop:=c.keys.length<2 ^ 62∧c.w7.length<2 ^ 62∧c.items.length<2 ^ 62
def big (h:List Cl):Prop:=h.length<2 ^ 62∧∀ c ∈ h,c7a c
set_option maxHeartbeats 1000000 in
theorem a3V (C:Laid P) (a b:Cl) (ha:c7a a):j7 P G G1 [aC a,aC b] [] (.bool (tt (a=b))):=by
 refine i5 C (a1v C) rfl ?_
 obtain ⟨h1,h2,h3⟩:=ha
 have he:=Cl.ext' a b
 repeat' ((conv=>whnf);first | (with_reducible refine sC (by kernel_rfl) ?_) | ((first | (with_reducible first | refine sB ?_ | refine o8 ?_ | refine o7 ?_) | refine sP (by rfl) ?_);first | refine oT ?_ | refine oF ?_ | (refine Or.inr (Or.inr ⟨fun hsp=>?_,fun hsp=>?_⟩) <;>(try simp only [nm,List.length_map] at hsp) <;>try subst hsp)) | refine ⟨_,_,K4 C a.items b.items (by assumption),?_⟩ | refine ⟨_,_,K4 C a.keys b.keys (by assumption),?_⟩ | refine ⟨_,_,K4 C a.w7 b.w7 (by assumption),?_⟩ | fail)
 all_goals (conv=>whnf)
 all_goals (first | (with_reducible refine z6 ?_) | (with_reducible refine x6 ?_) | (refine z9 ?_;try simp (disch:=omega) only [nm,wrap_small])) <;>(grind)
set_option maxHeartbeats 1000000 in
theorem a7T (C:Laid P) (l1 l2:List Cl) (hs:big l1):j7 P G P6 [.sl 7 (List.map j9 l1),.sl 7 (List.map j9 l2)] [] (.bool (tt (l1=l2))):=by
 refine i5 C (a5C C) rfl ?_
 obtain ⟨hl,hs1⟩:=hs
 repeat' ((conv=>whnf);first | (with_reducible refine sC (by kernel_rfl) ?_) | ((first | (with_reducible first | refine sB ?_ | refine o8 ?_ | refine o7 ?_) | refine sP (by rfl) ?_);first | refine oT ?_ | refine oF ?_ | (refine Or.inr (Or.inr ⟨fun hsp=>?_,fun hsp=>?_⟩) <;>(try simp only [nm,List.length_map] at hsp) <;>try subst hsp)) | fail)
 all_goals (conv=>whnf)
 all_goals try (exact x6 (by intro e;subst e;simp_all))
 intro X hX hW
 refine a2x hX (fun st (a:Nat)=>st.upd [(5,.pv (pI (a:Int)))] []) (fun a m=>a+m=l1.length∧(l1.length=l2.length∧((l1=l2)=(l1.drop a=l2.drop a)))) 0 l1.length (by (conv=>whnf);first | done | rfl) (by simp;omega) ?_
 intro m i ih hI
 rcases a0E l1 i with ⟨x,hlt,hx⟩ | hge
 ·have hrow:=y2 (f:=j9) hx
  have hd:=Z7 hx
  have hI2:=hI.2
  rw [hd] at hI2
  obtain ⟨y,hy⟩:∃ y,l2[i]?=some y:=⟨_,List.getElem?_eq_getElem (by omega)⟩
  have hrow2:=y2 (f:=j9) hy
  have hd2:=Z7 hy
  rw [hd2,List.cons.injEq] at hI2
  have hxs:=hs1 x (List.mem_of_getElem? hx)
  repeat' ((conv=>whnf);first | (with_reducible refine sC (by kernel_rfl) ?_) | ((first | (with_reducible first | refine sB ?_ | refine o8 ?_ | refine o7 ?_) | refine sP (by rfl) ?_);first | refine oT ?_ | refine oF ?_ | (refine Or.inr (Or.inr ⟨fun hsp=>?_,fun hsp=>?_⟩) <;>(try simp only [nm,List.length_map] at hsp) <;>try subst hsp)) | refine ⟨_,_,a3V C x y hxs,?_⟩ | refine sS (e7 (by rfl) (by rfl) (by omega) hrow) ?_ | refine sS (e7 (by rfl) (by rfl) (by omega) hrow2) ?_ | fail)
  all_goals (conv=>whnf)
  all_goals first
   | (refine ih (m - 1) (i+1) _ (by omega) ⟨by (try dsimp only);omega,?_⟩ (by (conv=>whnf);first | done | rfl | (simp (disch:=omega) only [p9])))
   | (with_reducible first | refine k7 ?_ | refine z6 ?_ | refine x6 ?_)
   | (refine z9 ?_;simp only [nm])
   | refine le_of_eq ?_
  all_goals (first | (have hd2:l2.drop i=[]:=List.drop_eq_nil_of_le (by omega);grind) | grind)
 ·have hd:l1.drop i=[]:=List.drop_eq_nil_of_le hge
  have hI2:=hI.2
  rw [hd] at hI2
  repeat' ((conv=>whnf);first | (with_reducible refine sC (by kernel_rfl) ?_) | ((first | (with_reducible first | refine sB ?_ | refine o8 ?_ | refine o7 ?_) | refine sP (by rfl) ?_);first | refine oT ?_ | refine oF ?_ | (refine Or.inr (Or.inr ⟨fun hsp=>?_,fun hsp=>?_⟩) <;>(try simp only [nm,List.length_map] at hsp) <;>try subst hsp)) | refine ⟨_,_,a3V C x y hxs,?_⟩ | fail)
  all_goals (conv=>whnf)
  all_goals first
   | (with_reducible first | refine k7 ?_ | refine z6 ?_ | refine x6 ?_)
   | (refine z9 ?_;simp only [nm])
   | refine le_of_eq ?_
  all_goals (first | (have hd2:l2.drop i=[]:=List.drop_eq_nil_of_le (by omega);grind) | grind)
end Go.Ab.Td

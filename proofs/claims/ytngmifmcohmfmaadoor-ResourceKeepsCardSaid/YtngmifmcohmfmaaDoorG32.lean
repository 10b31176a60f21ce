/- A part of the proof: the texts TdVe, TdRK, TdEq, TdEr. Under: nothing. -/
import Derived.Test.YtngmifmcohmfmaaDoorG13
import Derived.Test.YtngmifmcohmfmaaDoorG24
import Derived.Test.YtngmifmcohmfmaaDoorG27
import Derived.Test.YtngmifmcohmfmaaDoorG31
set_option linter.unusedVariables false
namespace Go.Ab.Td
set_option maxRecDepth 100000
set_option maxRecDepth 100000
open Go Go.Ab
variable {P:Program}
set_option linter.unusedSimpArgs false
theorem c3A (s:List UInt8):(D1 s).key=D1 s:=by simp [Ob.key,D1]
theorem b4w {ss:List (List UInt8)} (h:ss.Pairwise (·≠·)):b2v (ss.map D1):=by
 intro i k hk
 rw [List.getElem?_map,Option.map_eq_some_iff] at hk
 obtain ⟨s,hs,rfl⟩:=hk
 refine ⟨by simp [D1],by simp [D1],c3A s,?_⟩
 have q:=a4f (D1 s) (ss.map D1) i 0 (by rw [List.getElem?_map,hs];rfl)
 have no:¬ D1 s ∈ (ss.map D1).take i:=by
  intro hm
  rw [← List.map_take] at hm
  obtain ⟨s',h1,h2⟩:=List.mem_map.1 hm
  have e:s'=s:=by simp only [D1,Ob.mk.injEq,true_and,and_true] at h2;exact h2
  subst e
  rw [← List.take_append_drop i ss] at h
  have h3:s' ∈ ss.drop i:=List.mem_of_getElem? (i:=0) (by rw [List.getElem?_drop];exact hs)
  exact (List.pairwise_append.1 h).2.2 s' h1 s' h3 rfl
 rw [q] at no
 omega
theorem c0I {h:List Cl} {s:List UInt8} (hl:s.length≤100):fits h (D1 s):=N0 ((F9 s false).2 hl) rfl
theorem b5m {h:List Cl} {ss:List (List UInt8)} (hl:∀ s ∈ ss,s.length≤100):∀ o ∈ ss.map D1,fits h o:=by
 intro o ho
 obtain ⟨s,hs,rfl⟩:=List.mem_map.1 ho
 exact c0I (hl s hs)
theorem b6j {h:List Cl} {ss:List (List UInt8)} {vs:List Ob} {m:Int} (h0:0≤m) (h1:m≤200) (hl:ss.length=vs.length) (hm:(ss.length:Int)≤m) (hp:ss.Pairwise (·≠·)) (hs:∀ s ∈ ss,s.length≤100) (hv:∀ o ∈ vs,fits h o):T5 h (dct (ss.map D1) vs m):=
 .inr (.inr (.inl ⟨rfl,rfl,rfl,rfl,h0,h1,by simpa [dct] using hl,by simpa [dct] using hm,b5m hs,hv,b4w hp⟩))
def a5s (h:List Cl):Prop:=a1u h∧(∀ c ∈ h,T5 h c)∧(0≤F3 0 h∧F3 0 h≤704+41*((h.length:Int) - 10))
theorem a5s.valid {h:List Cl} (t:a5s h):a5r h:=by
 have:=t.1.len
 exact ⟨t.2.1,by have:=t.2.2.2;omega⟩
theorem b8W {h:List Cl} {s:List UInt8} (h1:1≤s.length) (h2:s.length≤100):fits h (opO s):=by
 refine N0 ?_ rfl
 unfold opO Ob.right Ob.blank;simp;omega
theorem a5Q {j:Nat} (h5:5≤j) (h9:j≤9):fits a0X (dO (j:Int)):=by
 refine ⟨b1t _ (by omega) (by omega),fun _=>⟨dct [] [] 10,?_,rfl,fun hx=>absurd rfl hx.1⟩⟩
 have:j=5∨j=6∨j=7∨j=8∨j=9:=by omega
 rcases this with rfl | rfl | rfl | rfl | rfl <;>rfl
theorem c0H:a5s a0X:=by
 refine ⟨⟨[],by simp,by simp,b8U⟩,?_,by decide,by decide⟩
 intro c hc
 simp only [a0X,List.mem_cons,List.not_mem_nil,or_false] at hc
 have e0:∀ m:Int,0≤m→m≤200→T5 a0X (dct [] [] m):=fun m h0 h1=>b6j (ss:=[]) h0 h1 rfl h0 .nil (by simp) (by simp)
 rcases hc with rfl | rfl | rfl | rfl | rfl | rfl | rfl | rfl | rfl | rfl
 ·refine b6j (ss:=[b2a,b2b]) (by decide) (by decide) rfl (by decide) (by decide) (by decide) ?_
  intro o ho
  simp only [List.mem_cons,List.not_mem_nil,or_false] at ho
  rcases ho with rfl | rfl <;>exact b8W (by decide) (by decide)
 ·exact e0 _ (by decide) (by decide)
 ·exact e0 _ (by decide) (by decide)
 ·exact e0 _ (by decide) (by decide)
 ·refine b6j (ss:=a1y) (by decide) (by decide) rfl (by decide) (by decide) (by decide) ?_
  intro o ho
  simp only [List.mem_cons,List.not_mem_nil,or_false] at ho
  rcases ho with rfl | rfl | rfl | rfl | rfl
  ·exact a5Q (j:=5) (by decide) (by decide)
  ·exact a5Q (j:=6) (by decide) (by decide)
  ·exact a5Q (j:=7) (by decide) (by decide)
  ·exact a5Q (j:=8) (by decide) (by decide)
  ·exact a5Q (j:=9) (by decide) (by decide)
 all_goals exact e0 _ (by decide) (by decide)
def FV (h:List Cl) (r:List PV):Prop:=∃ o:Ob,r=m6 o∧fits h o∧o.n<9223372036854775808
theorem c2J {h:List Cl}:∀ {rr:List (List PV)},(∀ x ∈ rr,FV h x)→∃ l:List Ob,rr=l.map m6∧(∀ o ∈ l,fits h o)∧∀ o ∈ l,o.n<9223372036854775808
 | [],_=>⟨[],rfl,by simp,by simp⟩
 | r::rr,hx=>by
   obtain ⟨o,rfl,hf,hn⟩:=hx r (by simp)
   obtain ⟨l,rfl,hl,hm⟩:=c2J (rr:=rr) fun x h=>hx x (by simp [h])
   exact ⟨o::l,rfl,by simpa using ⟨hf,hl⟩,by simpa using ⟨hn,hm⟩⟩
theorem slV {h:List Cl} {q:PV} {m:Nat} (hs:SlF (FV h) q m):∃ l:List Ob,PV.le q (.sl 7 (l.map m6))∧l.length=m∧(∀ o ∈ l,fits h o)∧∀ o ∈ l,o.n<9223372036854775808:=by
 rcases hs with ⟨rfl,rfl⟩ | ⟨rr,rfl,h1,h3⟩
 ·exact ⟨[],.emp 7,rfl,by simp,by simp⟩
 ·obtain ⟨l,rfl,hl,hm⟩:=c2J h3
  exact ⟨l,.refl _,by simpa using h1,hl,hm⟩
def a9i (m:Nat):List (List UInt8):=(List.range m).map fun i:Nat=>a6o (i:Int)
theorem b8v {m:Nat} (hm:m≤5):(a9i m).Pairwise (·≠·)∧(∀ s ∈ a9i m,s.length≤100)∧(a9i m).length=m:=by
 have:m=0∨m=1∨m=2∨m=3∨m=4∨m=5:=by omega
 rcases this with rfl | rfl | rfl | rfl | rfl | rfl <;>exact ⟨by decide,by decide,by decide⟩
theorem c4N {q:PV} {m:Nat} (hs:SlK q m):PV.le q (.sl 7 (((a9i m).map D1).map m6)):=by
 rcases hs with ⟨rfl,rfl⟩ | rfl
 ·exact .emp 7
 ·refine le_of_eq ?_
  unfold a9i
  rw [List.map_map,List.map_map]
  rfl
theorem c6h {ss:List (List UInt8)}:∀ o ∈ ss.map D1,o.n<9223372036854775808:=by
 intro o ho
 obtain ⟨s,_,rfl⟩:=List.mem_map.1 ho
 show (0:Int)<_
 decide
theorem a7E {c:Cl} (hk:c.kind≠3) (h1:c.bytes.length+c.items.length≤100000):c.size=1+(c.bytes.length:Int)+c.items.length:=by
 unfold Cl.size
 rw [if_neg hk,wrap_small (v:=1+(c.bytes.length:Int)) (by omega) (by omega),wrap_small (by omega) (by omega)]
theorem b0i {c:Cl} (hb:Byl c.kind c.bytes c.items.length) (h1:c.items.length≤1000) (h2:c.keys.length≤1000) (h3:c.v3.length≤1000) (n1:∀ o ∈ c.items,o.n<9223372036854775808) (n2:∀ o ∈ c.keys,o.n<9223372036854775808) (n3:∀ o ∈ c.v3,o.n<9223372036854775808):a8N c:=
 ⟨⟨by omega,by omega,by omega,by have:=hb.1;omega⟩,n3,_,_,_,_,_,_,_,_,_,_,rfl,hb,a9g h1 n1,a9g h2 n2,a9g h3 n3⟩
theorem c0F {h:List Cl} {r:List PV} (hr:a9k (FV h) r):∃ c:Cl,LeL r (m9 c)∧a8N c∧T5 h c∧0≤c.size∧c.size≤41:=by
 rcases hr with ⟨s,h1,rfl⟩ | ⟨q,m,hm,hs,rfl⟩ | ⟨qk,qv,m,mx,h1,h2,hk,hv,rfl⟩ | ⟨s,a,mx,h1,h2,h3,h4,rfl⟩
 ·refine ⟨⟨1,s,[],[],[],0,0⟩,.cons (.refl _) (.cons (.refl _) (.cons (.emp 7) (.cons (.emp 7) (.cons (.emp 7) (.refl _))))),b0i ⟨by dsimp only;omega,fun _=>⟨by dsimp only;omega,rfl⟩,fun hk=>absurd hk (by simp)⟩ (by simp) (by simp) (by simp) (by simp) (by simp) (by simp),.inl ⟨rfl,by dsimp only;omega,rfl,rfl,rfl,rfl,rfl⟩,?_⟩
  rw [a7E (by simp) (by simp;omega)]
  simp;omega
 ·obtain ⟨l,e,hl,hf,hn⟩:=slV hs
  refine ⟨⟨2,[],l,[],[],0,0⟩,.cons (.refl _) (.cons (.refl _) (.cons e (.cons (.emp 7) (.cons (.emp 7) (.refl _))))),b0i ⟨by simp,fun hk=>absurd hk (by simp),fun _=>rfl⟩ (by dsimp only;omega) (by simp) (by simp) hn (by simp) (by simp),.inr (.inl ⟨rfl,rfl,by dsimp only;omega,hf,rfl,rfl,rfl,rfl⟩),?_⟩
  rw [a7E (by simp) (by simp;omega)]
  simp;omega
 ·obtain ⟨l,e,hl,hf,hn⟩:=slV hv
  obtain ⟨w1,w2,w3⟩:=b8v (m:=m) (by omega)
  refine ⟨dct ((a9i m).map D1) l (mx:Int),.cons (.refl _) (.cons (.refl _) (.cons (.emp 7) (.cons (c4N hk) (.cons e (.refl _))))),b0i ⟨by simp [dct],fun hk=>absurd hk (by simp [dct]),fun _=>rfl⟩ (by simp [dct]) (by simp [dct,w3];omega) (by simp [dct];omega) (by simp [dct]) c6h hn,b6j (by omega) (by omega) (by omega) (by omega) w1 w2 hf,?_⟩
  unfold Cl.size dct
  dsimp only
  rw [if_pos rfl,if_neg (by omega),if_neg (by omega)]
  omega
 ·refine ⟨⟨4,s,[],[],[],mx,a⟩,.cons (.refl _) (.cons (.refl _) (.cons (.emp 7) (.cons (.emp 7) (.cons (.emp 7) (.refl _))))),b0i ⟨by dsimp only;omega,fun hk=>absurd hk (by simp),fun hk=>absurd hk (by simp)⟩ (by simp) (by simp) (by simp) (by simp) (by simp) (by simp),.inr (.inr (.inr ⟨rfl,by dsimp only;omega,rfl,rfl,rfl,h2,h3,h4⟩)),?_⟩
  rw [a7E (by simp) (by simp;omega)]
  simp;omega
theorem b6n {h:List Cl} {r:List PV} (hr:FV h r):O7 r:=by
 obtain ⟨o,rfl,_,hn⟩:=hr
 exact ⟨_,_,_,_,_,_,_,hn,rfl⟩
theorem c2N {h:List Cl} {q:PV} {m:Nat} (hs:SlF (FV h) q m) (hm:m≤1000):SlR q m:=by
 rcases hs with h1 | ⟨rr,e,hl,hf⟩
 ·exact .inl h1
 ·exact .inr ⟨rr,e,hl,hm,fun x hx=>b6n (hf x hx)⟩
theorem b6g {h:List Cl} {r:List PV} (hr:a9k (FV h) r):a2t r:=by
 rcases hr with ⟨s,h1,rfl⟩ | ⟨q,m,hm,hs,rfl⟩ | ⟨qk,qv,m,mx,h1,h2,hk,hv,rfl⟩ | ⟨s,a,mx,h1,h2,h3,h4,rfl⟩
 ·exact ⟨_,_,_,_,_,_,_,0,0,0,rfl,⟨by omega,fun _=>⟨by omega,rfl⟩,fun hk=>absurd hk (by decide)⟩,SlR.none,SlR.none,SlR.none⟩
 ·exact ⟨_,_,_,_,_,_,_,m,0,0,rfl,⟨by simp,fun hk=>absurd hk (by decide),fun _=>rfl⟩,c2N hs (by omega),SlR.none,SlR.none⟩
 ·refine ⟨_,_,_,_,_,_,_,0,m,m,rfl,⟨by simp,fun hk=>absurd hk (by decide),fun _=>rfl⟩,SlR.none,?_,c2N hv (by omega)⟩
  rcases hk with hk | rfl
  ·exact .inl hk
  ·refine .inr ⟨_,rfl,by simp,by omega,fun x hx=>?_⟩
   obtain ⟨i,_,rfl⟩:=List.mem_map.1 hx
   exact ⟨_,_,_,_,_,_,_,by decide,rfl⟩
 ·exact ⟨_,_,_,_,_,_,_,0,0,0,rfl,⟨by omega,fun hk=>absurd hk (by decide),fun hk=>absurd hk (by decide)⟩,SlR.none,SlR.none,SlR.none⟩
theorem b9d (C:Laid P) {h:List Cl} (t:a1u h) {H:List (List PV)} (e:LeR H (h.map m9)) (K A B N:Int) (S:List UInt8) (hA:0≤A∧A<256) (hB:0≤B∧B<256) (hN: -2147483648≤N∧N≤2147483647):∃ r,(FV h r∧O7 r)∧l9 P G i7 [F0 K A B N S,.sl 7 H] [] (.agg r):=by
 have f:FV h (m6 (b3u h K A B N)):=⟨_,rfl,b4o t K A B N hA hB hN,c2C h K A B N hA hN⟩
 exact ⟨_,⟨f,b6n f⟩,b3B (a3k C h t.small K A B N S hA hB hN) (.cons (.refl _) (.cons (c2A e) .nil))⟩
theorem a5s.app {h:List Cl} (t:a5s h) (hl:h.length<20) {c:Cl} (h1:a8N c) (h2:T5 h c) (h3:0≤c.size) (h4:c.size≤41):a5s (h++[c]):=by
 obtain ⟨⟨more,e,hm,hall⟩,hv,q1,q2⟩:=t
 have ml:h.length=10+more.length:=by rw [e,List.length_append];rfl
 refine ⟨⟨more++[c],by rw [e,List.append_assoc],by simp;omega,?_⟩,?_,?_⟩
 ·intro d hd
  rcases List.mem_append.1 hd with hd | hd
  ·exact hall d hd
  ·simp only [List.mem_singleton] at hd;subst hd;exact h1
 ·intro d hd
  rcases List.mem_append.1 hd with hd | hd
  ·exact a4M (fun o ho=>b4n ho) (hv d hd)
  ·simp only [List.mem_singleton] at hd;subst hd;exact a4M (fun o ho=>b4n ho) h2
 ·rw [b6L,wrap_small (by omega) (by omega),List.length_append]
  simp only [List.length_cons,List.length_nil]
  omega
end Go.Ab.Td
namespace Go.Ab.Td
set_option maxRecDepth 100000
open Go Go.Ab
variable {P:Program}
set_option linter.unusedSimpArgs false
attribute [local irreducible] j6
open Classical in
noncomputable def eqv (h:List Cl) (a b:Ob):Prop:=if ¬ fits h a∨¬ fits h b then False else if a.isNum∧b.isNum then a.val=b.val else if (oct h a).isSome=true∧(oct h b).isSome=true then (oct h a).getD []=(oct h b).getD [] else ({a with exec:=false}:Ob)={b with exec:=false}
end Go.Ab.Td
namespace Go.Ab.Td
set_option maxRecDepth 100000
open Go Go.Ab
variable {P:Program}
set_option linter.unusedSimpArgs false
attribute [local irreducible] j6
end Go.Ab.Td
namespace Go.Ab.Td
set_option maxRecDepth 100000
open Go Go.Ab
variable {P:Program}
set_option linter.unusedSimpArgs false
attribute [local irreducible] j6
end Go.Ab.Td

/- A part of the proof: the texts TdKl, TdKm, TdVp, TdVe. Under: nothing. -/
import Derived.Test.YtomfaadmmchdcaaDoorG39
import Derived.Test.YtomfaadmmchdcaaDoorG21
import Derived.Test.YtomfaadmmchdcaaDoorG24
set_option linter.unusedVariables false
namespace Go.Ab.Td
set_option maxRecDepth 100000
open Go Go.Ab
variable {P:Program}
set_option linter.unusedSimpArgs false
attribute [local irreducible] g8
def W7 (h:List Cl) (c:Cl):Prop:=
 (c.kind=1∧(c.bytes.length≤1000∧c.items.length=0∧c.keys.length=0∧c.p8.length=0∧c.max=0∧c.at'=0))∨
 (c.kind=2∧(c.bytes=[]∧c.items.length≤1000∧(∀ o ∈ c.items,fits h o)∧c.keys.length=0∧c.p8.length=0∧c.max=0∧c.at'=0))∨
 (c.kind=3∧(c.bytes=[]∧c.items.length=0∧c.at'=0∧0≤c.max∧c.max≤200∧c.keys.length=c.p8.length∧(c.keys.length:Int)≤c.max∧(∀ o ∈ c.keys,fits h o)∧(∀ o ∈ c.p8,fits h o)∧b8A c.keys))∨
 (c.kind=4∧(c.bytes.length≤4000∧c.items.length=0∧c.keys.length=0∧c.p8.length=0∧0≤c.at'∧c.at'≤c.bytes.length∧(c.max=0∨c.max=1)))
end Go.Ab.Td
namespace Go.Ab.Td
set_option maxRecDepth 100000
open Go Go.Ab
variable {P:Program}
set_option linter.unusedSimpArgs false
attribute [local irreducible] g8
end Go.Ab.Td
namespace Go.Ab.Td
set_option maxRecDepth 100000
set_option maxRecDepth 100000
open Go Go.Ab
set_option linter.unusedSimpArgs false
theorem a8V (k:Ob):∀ (l:List Ob) (i s:Nat),l[i]?=some k→(k ∈ l.take i↔i6 k s l<s+i)
 | [],_,_,h=>by simp at h
 | x::l,0,s,h=>by
   simp only [List.getElem?_cons_zero,Option.some.injEq] at h
   subst h
   simp [i6]
 | x::l,i+1,s,h=>by
   simp only [List.getElem?_cons_succ] at h
   have ih:=a8V k l i (s+1) h
   simp only [List.take_succ_cons,List.mem_cons]
   unfold i6
   by_cases e:x=k
   ·rw [if_pos e];simp [e];omega
   ·rw [if_neg e,ih]
    constructor
    ·rintro (e2 | e2)
     ·exact absurd e2.symm e
     ·omega
    ·intro e2;right;omega
theorem c8T {p:Ob→Prop} {a b c:List Ob}:(∀ l ∈ [a,b,c],∀ o ∈ l,p o)↔((∀ o ∈ a,p o)∧(∀ o ∈ b,p o)∧(∀ o ∈ c,p o)):=by
 simp
def a8q (h:List Cl):Prop:=(∀ c ∈ h,W7 h c)∧R6 0 h≤20000
theorem b5F (c:Cl):∀ (l:List Cl) (n:Int),R6 n (l++[c])=IntKind.i64.wrap (R6 n l+c.size)
 | [],_=>rfl
 | _::l,_=>b5F c l _
theorem b5G {c c':Cl} (hs:c'.size=c.size):∀ (l:List Cl) (j:Nat) (n:Int),l[j]?=some c→R6 n (l.set j c')=R6 n l
 | [],j,n,h=>by simp at h
 | x::l,0,n,h=>by
   simp only [List.getElem?_cons_zero,Option.some.injEq] at h
   subst h
   simp only [List.set_cons_zero,R6,hs]
 | x::l,j+1,n,h=>by
   simp only [List.getElem?_cons_succ] at h
   simp only [List.set_cons_succ,R6]
   exact b5G hs l j _ h
theorem a8S {h more:List Cl} {o:Ob} (hf:fits h o):fits (h++more) o:=by
 refine ⟨hf.1,fun hk=>?_⟩
 obtain ⟨c,hc,h1⟩:=hf.2 hk
 exact ⟨c,by rw [List.getElem?_append_left (List.getElem?_eq_some_iff.1 hc).1];exact hc,h1⟩
theorem a1q {h h':List Cl} (hm:∀ o,fits h o→fits h' o) {c:Cl} (hc:W7 h c):W7 h' c:=by
 unfold W7 at*
 rcases hc with h1 | ⟨k,a,b,f,r⟩ | ⟨k,a,b,c1,c2,c3,c4,c5,f,g,r⟩ | h1
 ·exact .inl h1
 ·exact .inr (.inl ⟨k,a,b,fun o ho=>hm o (f o ho),r⟩)
 ·exact .inr (.inr (.inl ⟨k,a,b,c1,c2,c3,c4,c5,fun o ho=>hm o (f o ho),fun o ho=>hm o (g o ho),r⟩))
 ·exact .inr (.inr (.inr h1))
theorem b6a {h:List Cl} {j:Nat} {c c':Cl} (hc:h[j]?=some c) (hk:c'.kind=c.kind) (hl:c'.kind=3∨c'.kind=4∨c'.length=c.length) {o:Ob} (hf:fits h o):fits (h.set j c') o:=by
 refine ⟨hf.1,fun hx=>?_⟩
 obtain ⟨d,hd,h1,h2⟩:=hf.2 hx
 by_cases e:o.ref.toNat=j
 ·subst e
  rw [hd] at hc
  cases hc
  refine ⟨c',by rw [List.getElem?_set_self (List.getElem?_eq_some_iff.1 hd).1],by rw [hk];exact h1,fun h9=>?_⟩
  have:c'.length=c.length:=by
   rcases hl with hl | hl | hl
   ·exfalso
    rw [hk,h1] at hl
    rcases a3G o.kind with q | q | q | q | q <;>omega
   ·exfalso
    rw [hk,h1] at hl
    rcases a3G o.kind with q | q | q | q | q <;>omega
   ·exact hl
  rw [this]
  exact h2 h9
 ·exact ⟨d,by rw [List.getElem?_set_ne (fun h=>e h.symm)];exact hd,h1,h2⟩
theorem b4r {h:List Cl} {j:Nat} {c c':Cl} (hv:a8q h) (hc:h[j]?=some c) (hk:c'.kind=c.kind) (hl:c'.kind=3∨c'.kind=4∨c'.length=c.length) (hs:c'.size=c.size) (hr:W7 h c'):a8q (h.set j c'):=by
 refine ⟨fun d hd=>?_,by rw [b5G hs h j 0 hc];exact hv.2⟩
 rcases List.mem_or_eq_of_mem_set hd with hd | rfl
 ·exact a1q (fun o ho=>b6a hc hk hl ho) (hv.1 d hd)
 ·exact a1q (fun o ho=>b6a hc hk hl ho) hr
end Go.Ab.Td
namespace Go.Ab.Td
set_option maxRecDepth 100000
set_option maxRecDepth 100000
open Go Go.Ab
variable {P:Program}
set_option linter.unusedSimpArgs false
theorem c5D (s:List UInt8):(W4 s).key=W4 s:=by simp [Ob.key,W4]
theorem b6l {ss:List (List UInt8)} (h:ss.Pairwise (·≠·)):b8A (ss.map W4):=by
 intro i k hk
 rw [List.getElem?_map,Option.map_eq_some_iff] at hk
 obtain ⟨s,hs,rfl⟩:=hk
 refine ⟨by simp [W4],by simp [W4],c5D s,?_⟩
 have q:=a8V (W4 s) (ss.map W4) i 0 (by rw [List.getElem?_map,hs];rfl)
 have no:¬ W4 s ∈ (ss.map W4).take i:=by
  intro hm
  rw [← List.map_take] at hm
  obtain ⟨s',h1,h2⟩:=List.mem_map.1 hm
  have e:s'=s:=by simp only [W4,Ob.mk.injEq,true_and,and_true] at h2;exact h2
  subst e
  rw [← List.take_append_drop i ss] at h
  have h3:s' ∈ ss.drop i:=List.mem_of_getElem? (i:=0) (by rw [List.getElem?_drop];exact hs)
  exact (List.pairwise_append.1 h).2.2 s' h1 s' h3 rfl
 rw [q] at no
 omega
theorem b8t {h:List Cl} {s:List UInt8} (hl:s.length≤100):fits h (W4 s):=K3 ((G7 s false).2 hl) rfl
theorem b7n {h:List Cl} {ss:List (List UInt8)} (hl:∀ s ∈ ss,s.length≤100):∀ o ∈ ss.map W4,fits h o:=by
 intro o ho
 obtain ⟨s,hs,rfl⟩:=List.mem_map.1 ho
 exact b8t (hl s hs)
theorem b8m {h:List Cl} {ss:List (List UInt8)} {vs:List Ob} {m:Int} (h0:0≤m) (h1:m≤200) (hl:ss.length=vs.length) (hm:(ss.length:Int)≤m) (hp:ss.Pairwise (·≠·)) (hs:∀ s ∈ ss,s.length≤100) (hv:∀ o ∈ vs,fits h o):W7 h (dct (ss.map W4) vs m):=
 .inr (.inr (.inl ⟨rfl,rfl,rfl,rfl,h0,h1,by simpa [dct] using hl,by simpa [dct] using hm,b7n hs,hv,b6l hp⟩))
def a2r (h:List Cl):Prop:=a1P h∧(∀ c ∈ h,W7 h c)∧(0≤R6 0 h∧R6 0 h≤704+41*((h.length:Int) - 10))
theorem a2r.valid {h:List Cl} (t:a2r h):a8q h:=by
 have:=t.1.len
 exact ⟨t.2.1,by have:=t.2.2.2;omega⟩
theorem c1b {h:List Cl} {s:List UInt8} (h1:1≤s.length) (h2:s.length≤100):fits h (opO s):=by
 refine K3 ?_ rfl
 unfold opO Ob.right Ob.blank;simp;omega
theorem a6p {j:Nat} (h5:5≤j) (h9:j≤9):fits a1v (dO (j:Int)):=by
 refine ⟨b2O _ (by omega) (by omega),fun _=>⟨dct [] [] 10,?_,rfl,fun hx=>absurd rfl hx.1⟩⟩
 have:j=5∨j=6∨j=7∨j=8∨j=9:=by omega
 rcases this with rfl | rfl | rfl | rfl | rfl <;>rfl
theorem c2V:a2r a1v:=by
 refine ⟨⟨[],by simp,by simp,c1a⟩,?_,by decide,by decide⟩
 intro c hc
 simp only [a1v,List.mem_cons,List.not_mem_nil,or_false] at hc
 have e0:∀ m:Int,0≤m→m≤200→W7 a1v (dct [] [] m):=fun m h0 h1=>b8m (ss:=[]) h0 h1 rfl h0 .nil (by simp) (by simp)
 rcases hc with rfl | rfl | rfl | rfl | rfl | rfl | rfl | rfl | rfl | rfl
 ·refine b8m (ss:=[b3J,b3K]) (by decide) (by decide) rfl (by decide) (by decide) (by decide) ?_
  intro o ho
  simp only [List.mem_cons,List.not_mem_nil,or_false] at ho
  rcases ho with rfl | rfl <;>exact c1b (by decide) (by decide)
 ·exact e0 _ (by decide) (by decide)
 ·exact e0 _ (by decide) (by decide)
 ·exact e0 _ (by decide) (by decide)
 ·refine b8m (ss:=b0S) (by decide) (by decide) rfl (by decide) (by decide) (by decide) ?_
  intro o ho
  simp only [List.mem_cons,List.not_mem_nil,or_false] at ho
  rcases ho with rfl | rfl | rfl | rfl | rfl
  ·exact a6p (j:=5) (by decide) (by decide)
  ·exact a6p (j:=6) (by decide) (by decide)
  ·exact a6p (j:=7) (by decide) (by decide)
  ·exact a6p (j:=8) (by decide) (by decide)
  ·exact a6p (j:=9) (by decide) (by decide)
 all_goals exact e0 _ (by decide) (by decide)
def FV (h:List Cl) (r:List PV):Prop:=∃ o:Ob,r=i4 o∧fits h o∧o.n<9223372036854775808
theorem c4N {h:List Cl}:∀ {rr:List (List PV)},(∀ x ∈ rr,FV h x)→∃ l:List Ob,rr=l.map i4∧(∀ o ∈ l,fits h o)∧∀ o ∈ l,o.n<9223372036854775808
 | [],_=>⟨[],rfl,by simp,by simp⟩
 | r::rr,hx=>by
   obtain ⟨o,rfl,hf,hn⟩:=hx r (by simp)
   obtain ⟨l,rfl,hl,hm⟩:=c4N (rr:=rr) fun x h=>hx x (by simp [h])
   exact ⟨o::l,rfl,by simpa using ⟨hf,hl⟩,by simpa using ⟨hn,hm⟩⟩
theorem slV {h:List Cl} {q:PV} {m:Nat} (hs:SlF (FV h) q m):∃ l:List Ob,PV.le q (.sl 7 (l.map i4))∧l.length=m∧(∀ o ∈ l,fits h o)∧∀ o ∈ l,o.n<9223372036854775808:=by
 rcases hs with ⟨rfl,rfl⟩ | ⟨rr,rfl,h1,h3⟩
 ·exact ⟨[],.emp 7,rfl,by simp,by simp⟩
 ·obtain ⟨l,rfl,hl,hm⟩:=c4N h3
  exact ⟨l,.refl _,by simpa using h1,hl,hm⟩
def b0p (m:Nat):List (List UInt8):=(List.range m).map fun i:Nat=>a6N (i:Int)
theorem c0y {m:Nat} (hm:m≤5):(b0p m).Pairwise (·≠·)∧(∀ s ∈ b0p m,s.length≤100)∧(b0p m).length=m:=by
 have:m=0∨m=1∨m=2∨m=3∨m=4∨m=5:=by omega
 rcases this with rfl | rfl | rfl | rfl | rfl | rfl <;>exact ⟨by decide,by decide,by decide⟩
theorem c6S {q:PV} {m:Nat} (hs:SlK q m):PV.le q (.sl 7 (((b0p m).map W4).map i4)):=by
 rcases hs with ⟨rfl,rfl⟩ | rfl
 ·exact .emp 7
 ·refine le_of_eq ?_
  unfold b0p
  rw [List.map_map,List.map_map]
  rfl
theorem c8Z {ss:List (List UInt8)}:∀ o ∈ ss.map W4,o.n<9223372036854775808:=by
 intro o ho
 obtain ⟨s,_,rfl⟩:=List.mem_map.1 ho
 show (0:Int)<_
 decide
theorem a8n {c:Cl} (hk:c.kind≠3) (h1:c.bytes.length+c.items.length≤100000):c.size=1+(c.bytes.length:Int)+c.items.length:=by
 unfold Cl.size
 rw [if_neg hk,wrap_small (v:=1+(c.bytes.length:Int)) (by omega) (by omega),wrap_small (by omega) (by omega)]
theorem b1r {c:Cl} (hb:Byl c.kind c.bytes c.items.length) (h1:c.items.length≤1000) (h2:c.keys.length≤1000) (h3:c.p8.length≤1000) (n1:∀ o ∈ c.items,o.n<9223372036854775808) (n2:∀ o ∈ c.keys,o.n<9223372036854775808) (n3:∀ o ∈ c.p8,o.n<9223372036854775808):a7T c:=
 ⟨⟨by omega,by omega,by omega,by have:=hb.1;omega⟩,n3,_,_,_,_,_,_,_,_,_,_,rfl,hb,b0m h1 n1,b0m h2 n2,b0m h3 n3⟩
theorem c2U {h:List Cl} {r:List PV} (hr:b0s (FV h) r):∃ c:Cl,N8 r (j6 c)∧a7T c∧W7 h c∧0≤c.size∧c.size≤41:=by
 rcases hr with ⟨s,h1,rfl⟩ | ⟨q,m,hm,hs,rfl⟩ | ⟨qk,qv,m,mx,h1,h2,hk,hv,rfl⟩ | ⟨s,a,mx,h1,h2,h3,h4,rfl⟩
 ·refine ⟨⟨1,s,[],[],[],0,0⟩,.cons (.refl _) (.cons (.refl _) (.cons (.emp 7) (.cons (.emp 7) (.cons (.emp 7) (.refl _))))),b1r ⟨by dsimp only;omega,fun _=>⟨by dsimp only;omega,rfl⟩,fun hk=>absurd hk (by simp)⟩ (by simp) (by simp) (by simp) (by simp) (by simp) (by simp),.inl ⟨rfl,by dsimp only;omega,rfl,rfl,rfl,rfl,rfl⟩,?_⟩
  rw [a8n (by simp) (by simp;omega)]
  simp;omega
 ·obtain ⟨l,e,hl,hf,hn⟩:=slV hs
  refine ⟨⟨2,[],l,[],[],0,0⟩,.cons (.refl _) (.cons (.refl _) (.cons e (.cons (.emp 7) (.cons (.emp 7) (.refl _))))),b1r ⟨by simp,fun hk=>absurd hk (by simp),fun _=>rfl⟩ (by dsimp only;omega) (by simp) (by simp) hn (by simp) (by simp),.inr (.inl ⟨rfl,rfl,by dsimp only;omega,hf,rfl,rfl,rfl,rfl⟩),?_⟩
  rw [a8n (by simp) (by simp;omega)]
  simp;omega
 ·obtain ⟨l,e,hl,hf,hn⟩:=slV hv
  obtain ⟨w1,w2,w3⟩:=c0y (m:=m) (by omega)
  refine ⟨dct ((b0p m).map W4) l (mx:Int),.cons (.refl _) (.cons (.refl _) (.cons (.emp 7) (.cons (c6S hk) (.cons e (.refl _))))),b1r ⟨by simp [dct],fun hk=>absurd hk (by simp [dct]),fun _=>rfl⟩ (by simp [dct]) (by simp [dct,w3];omega) (by simp [dct];omega) (by simp [dct]) c8Z hn,b8m (by omega) (by omega) (by omega) (by omega) w1 w2 hf,?_⟩
  unfold Cl.size dct
  dsimp only
  rw [if_pos rfl,if_neg (by omega),if_neg (by omega)]
  omega
 ·refine ⟨⟨4,s,[],[],[],mx,a⟩,.cons (.refl _) (.cons (.refl _) (.cons (.emp 7) (.cons (.emp 7) (.cons (.emp 7) (.refl _))))),b1r ⟨by dsimp only;omega,fun hk=>absurd hk (by simp),fun hk=>absurd hk (by simp)⟩ (by simp) (by simp) (by simp) (by simp) (by simp) (by simp),.inr (.inr (.inr ⟨rfl,by dsimp only;omega,rfl,rfl,rfl,h2,h3,h4⟩)),?_⟩
  rw [a8n (by simp) (by simp;omega)]
  simp;omega
theorem b4M {h:List Cl} {r:List PV} (hr:FV h r):a2Y r:=by
 obtain ⟨o,rfl,_,hn⟩:=hr
 exact ⟨_,_,_,_,_,_,_,hn,rfl⟩
theorem c4P {h:List Cl} {q:PV} {m:Nat} (hs:SlF (FV h) q m) (hm:m≤1000):SlR q m:=by
 rcases hs with h1 | ⟨rr,e,hl,hf⟩
 ·exact .inl h1
 ·exact .inr ⟨rr,e,hl,hm,fun x hx=>b4M (hf x hx)⟩
theorem b8j {h:List Cl} {r:List PV} (hr:b0s (FV h) r):a2X r:=by
 rcases hr with ⟨s,h1,rfl⟩ | ⟨q,m,hm,hs,rfl⟩ | ⟨qk,qv,m,mx,h1,h2,hk,hv,rfl⟩ | ⟨s,a,mx,h1,h2,h3,h4,rfl⟩
 ·exact ⟨_,_,_,_,_,_,_,0,0,0,rfl,⟨by omega,fun _=>⟨by omega,rfl⟩,fun hk=>absurd hk (by decide)⟩,SlR.none,SlR.none,SlR.none⟩
 ·exact ⟨_,_,_,_,_,_,_,m,0,0,rfl,⟨by simp,fun hk=>absurd hk (by decide),fun _=>rfl⟩,c4P hs (by omega),SlR.none,SlR.none⟩
 ·refine ⟨_,_,_,_,_,_,_,0,m,m,rfl,⟨by simp,fun hk=>absurd hk (by decide),fun _=>rfl⟩,SlR.none,?_,c4P hv (by omega)⟩
  rcases hk with hk | rfl
  ·exact .inl hk
  ·refine .inr ⟨_,rfl,by simp,by omega,fun x hx=>?_⟩
   obtain ⟨i,_,rfl⟩:=List.mem_map.1 hx
   exact ⟨_,_,_,_,_,_,_,by decide,rfl⟩
 ·exact ⟨_,_,_,_,_,_,_,0,0,0,rfl,⟨by omega,fun hk=>absurd hk (by decide),fun hk=>absurd hk (by decide)⟩,SlR.none,SlR.none,SlR.none⟩
theorem b6m (C:Laid P) {h:List Cl} (t:a1P h) {H:List (List PV)} (e:LeR H (h.map j6)) (K A B N:Int) (S:List UInt8) (hA:0≤A∧A<256) (hB:0≤B∧B<256) (hN: -2147483648≤N∧N≤2147483647):∃ r,(FV h r∧a2Y r)∧l8 P G n5 [a1i K A B N S,.sl 7 H] [] (.agg r):=by
 have f:FV h (i4 (a9m h K A B N)):=⟨_,rfl,a8T t K A B N hA hB hN,c1t h K A B N hA hN⟩
 exact ⟨_,⟨f,b4M f⟩,a6X (a0R C h t.small K A B N S hA hB hN) (.cons (.refl _) (.cons (c1j e) .nil))⟩
theorem a2r.app {h:List Cl} (t:a2r h) (hl:h.length<20) {c:Cl} (h1:a7T c) (h2:W7 h c) (h3:0≤c.size) (h4:c.size≤41):a2r (h++[c]):=by
 obtain ⟨⟨more,e,hm,hall⟩,hv,q1,q2⟩:=t
 have ml:h.length=10+more.length:=by rw [e,List.length_append];rfl
 refine ⟨⟨more++[c],by rw [e,List.append_assoc],by simp;omega,?_⟩,?_,?_⟩
 ·intro d hd
  rcases List.mem_append.1 hd with hd | hd
  ·exact hall d hd
  ·simp only [List.mem_singleton] at hd;subst hd;exact h1
 ·intro d hd
  rcases List.mem_append.1 hd with hd | hd
  ·exact a1q (fun o ho=>a8S ho) (hv d hd)
  ·simp only [List.mem_singleton] at hd;subst hd;exact a1q (fun o ho=>a8S ho) h2
 ·rw [b5F,wrap_small (by omega) (by omega),List.length_append]
  simp only [List.length_cons,List.length_nil]
  omega
end Go.Ab.Td

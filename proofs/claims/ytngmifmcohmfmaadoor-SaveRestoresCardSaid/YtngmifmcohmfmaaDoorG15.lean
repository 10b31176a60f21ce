/- A part of the proof: the texts TdVe, TdHi, TdVf, TdVg, TdAr2, TdAr4, TdVl, TdVq. Under: nothing. -/
import Derived.Test.YtngmifmcohmfmaaDoorG14
import Derived.Test.YtngmifmcohmfmaaDoorG12
import Derived.Test.YtngmifmcohmfmaaDoorG11
import Derived.Test.YtngmifmcohmfmaaDoorG13
set_option linter.unusedVariables false
namespace Go.Ab.Td
set_option maxRecDepth 100000
set_option maxRecDepth 100000
open Go Go.Ab
variable {P:Program}
set_option linter.unusedSimpArgs false
theorem c1O (s:List UInt8):(nmO s).key=nmO s:=by simp [Ob.key,nmO]
theorem b6k {ss:List (List UInt8)} (h:ss.Pairwise (·≠·)):b9d (ss.map nmO):=by
 intro i k hk
 rw [List.getElem?_map,Option.map_eq_some_iff] at hk
 obtain ⟨s,hs,rfl⟩:=hk
 refine ⟨by simp [nmO],by simp [nmO],c1O s,?_⟩
 have q:=a8I (nmO s) (ss.map nmO) i 0 (by rw [List.getElem?_map,hs];rfl)
 have no:¬ nmO s ∈ (ss.map nmO).take i:=by
  intro hm
  rw [← List.map_take] at hm
  obtain ⟨s',h1,h2⟩:=List.mem_map.1 hm
  have e:s'=s:=by simp only [nmO,Ob.mk.injEq,true_and,and_true] at h2;exact h2
  subst e
  rw [← List.take_append_drop i ss] at h
  have h3:s' ∈ ss.drop i:=List.mem_of_getElem? (i:=0) (by rw [List.getElem?_drop];exact hs)
  exact (List.pairwise_append.1 h).2.2 s' h1 s' h3 rfl
 rw [q] at no
 omega
theorem b8V {h:List Cl} {s:List UInt8} (hl:s.length≤100):fits h (nmO s):=u2 ((c2f s false).2 hl) rfl
theorem b7o {h:List Cl} {ss:List (List UInt8)} (hl:∀ s ∈ ss,s.length≤100):∀ o ∈ ss.map nmO,fits h o:=by
 intro o ho
 obtain ⟨s,hs,rfl⟩:=List.mem_map.1 ho
 exact b8V (hl s hs)
theorem b8Q {h:List Cl} {ss:List (List UInt8)} {vs:List Ob} {m:Int} (h0:0≤m) (h1:m≤200) (hl:ss.length=vs.length) (hm:(ss.length:Int)≤m) (hp:ss.Pairwise (·≠·)) (hs:∀ s ∈ ss,s.length≤100) (hv:∀ o ∈ vs,fits h o):a0R h (dct (ss.map nmO) vs m):=
 .inr (.inr (.inl ⟨rfl,rfl,rfl,rfl,h0,h1,by simpa [dct] using hl,by simpa [dct] using hm,b7o hs,hv,b6k hp⟩))
def a5U (h:List Cl):Prop:=a2e h∧(∀ c ∈ h,a0R h c)∧(0≤r9 0 h∧r9 0 h≤704+41*((h.length:Int) - 10))
theorem a5U.valid {h:List Cl} (t:a5U h):a2c h:=by
 have:=t.1.len
 exact ⟨t.2.1,by have:=t.2.2.2;omega⟩
theorem c1x {h:List Cl} {s:List UInt8} (h1:1≤s.length) (h2:s.length≤100):fits h (opO s):=by
 refine u2 ?_ rfl
 unfold opO Ob.right Ob.blank;simp;omega
theorem a6g {j:Nat} (h5:5≤j) (h9:j≤9):fits a1e (dO (j:Int)):=by
 refine ⟨b7H _ (by omega) (by omega),fun _=>⟨dct [] [] 10,?_,rfl,fun hx=>absurd rfl hx.1⟩⟩
 have:j=5∨j=6∨j=7∨j=8∨j=9:=by omega
 rcases this with rfl | rfl | rfl | rfl | rfl <;>rfl
theorem c3l:a5U a1e:=by
 refine ⟨⟨[],by simp,by simp,c1u⟩,?_,by decide,by decide⟩
 intro c hc
 simp only [a1e,List.mem_cons,List.not_mem_nil,or_false] at hc
 have e0:∀ m:Int,0≤m→m≤200→a0R a1e (dct [] [] m):=fun m h0 h1=>b8Q (ss:=[]) h0 h1 rfl h0 .nil (by simp) (by simp)
 rcases hc with rfl | rfl | rfl | rfl | rfl | rfl | rfl | rfl | rfl | rfl
 ·refine b8Q (ss:=[b3G,b3H]) (by decide) (by decide) rfl (by decide) (by decide) (by decide) ?_
  intro o ho
  simp only [List.mem_cons,List.not_mem_nil,or_false] at ho
  rcases ho with rfl | rfl <;>exact c1x (by decide) (by decide)
 ·exact e0 _ (by decide) (by decide)
 ·exact e0 _ (by decide) (by decide)
 ·exact e0 _ (by decide) (by decide)
 ·refine b8Q (ss:=b7m) (by decide) (by decide) rfl (by decide) (by decide) (by decide) ?_
  intro o ho
  simp only [List.mem_cons,List.not_mem_nil,or_false] at ho
  rcases ho with rfl | rfl | rfl | rfl | rfl
  ·exact a6g (j:=5) (by decide) (by decide)
  ·exact a6g (j:=6) (by decide) (by decide)
  ·exact a6g (j:=7) (by decide) (by decide)
  ·exact a6g (j:=8) (by decide) (by decide)
  ·exact a6g (j:=9) (by decide) (by decide)
 all_goals exact e0 _ (by decide) (by decide)
def FV (h:List Cl) (r:List PV):Prop:=∃ o:Ob,r=g9 o∧fits h o∧o.n<9223372036854775808
theorem c4E {h:List Cl}:∀ {rr:List (List PV)},(∀ x ∈ rr,FV h x)→∃ l:List Ob,rr=l.map g9∧(∀ o ∈ l,fits h o)∧∀ o ∈ l,o.n<9223372036854775808
 | [],_=>⟨[],rfl,by simp,by simp⟩
 | r::rr,hx=>by
   obtain ⟨o,rfl,hf,hn⟩:=hx r (by simp)
   obtain ⟨l,rfl,hl,hm⟩:=c4E (rr:=rr) fun x h=>hx x (by simp [h])
   exact ⟨o::l,rfl,by simpa using ⟨hf,hl⟩,by simpa using ⟨hn,hm⟩⟩
theorem slV {h:List Cl} {q:PV} {m:Nat} (hs:SlF (FV h) q m):∃ l:List Ob,PV.le q (.sl 7 (l.map g9))∧l.length=m∧(∀ o ∈ l,fits h o)∧∀ o ∈ l,o.n<9223372036854775808:=by
 rcases hs with ⟨rfl,rfl⟩ | ⟨rr,rfl,h1,h3⟩
 ·exact ⟨[],.emp 7,rfl,by simp,by simp⟩
 ·obtain ⟨l,rfl,hl,hm⟩:=c4E h3
  exact ⟨l,.refl _,by simpa using h1,hl,hm⟩
def b0p (m:Nat):List (List UInt8):=(List.range m).map fun i:Nat=>a6K (i:Int)
theorem c0S {m:Nat} (hm:m≤5):(b0p m).Pairwise (·≠·)∧(∀ s ∈ b0p m,s.length≤100)∧(b0p m).length=m:=by
 have:m=0∨m=1∨m=2∨m=3∨m=4∨m=5:=by omega
 rcases this with rfl | rfl | rfl | rfl | rfl | rfl <;>exact ⟨by decide,by decide,by decide⟩
theorem c7x {q:PV} {m:Nat} (hs:SlK q m):PV.le q (.sl 7 (((b0p m).map nmO).map g9)):=by
 rcases hs with ⟨rfl,rfl⟩ | rfl
 ·exact .emp 7
 ·refine le_of_eq ?_
  unfold b0p
  rw [List.map_map,List.map_map]
  rfl
theorem c7T {ss:List (List UInt8)}:∀ o ∈ ss.map nmO,o.n<9223372036854775808:=by
 intro o ho
 obtain ⟨s,_,rfl⟩:=List.mem_map.1 ho
 show (0:Int)<_
 decide
theorem a8h {c:Cl} (hk:c.kind≠3) (h1:c.bytes.length+c.items.length≤100000):c.size=1+(c.bytes.length:Int)+c.items.length:=by
 unfold Cl.size
 rw [if_neg hk,wrap_small (v:=1+(c.bytes.length:Int)) (by omega) (by omega),wrap_small (by omega) (by omega)]
theorem b1h {c:Cl} (hb:Byl c.kind c.bytes c.items.length) (h1:c.items.length≤1000) (h2:c.keys.length≤1000) (h3:c.A7.length≤1000) (n1:∀ o ∈ c.items,o.n<9223372036854775808) (n2:∀ o ∈ c.keys,o.n<9223372036854775808) (n3:∀ o ∈ c.A7,o.n<9223372036854775808):a7b c:=
 ⟨⟨by omega,by omega,by omega,by have:=hb.1;omega⟩,n3,_,_,_,_,_,_,_,_,_,_,rfl,hb,b0m h1 n1,b0m h2 n2,b0m h3 n3⟩
theorem b8O {h:List Cl} {r:List PV} (hr:b0s (FV h) r):∃ c:Cl,K3 r (k9 c)∧a7b c∧a0R h c∧0≤c.size∧c.size≤41:=by
 rcases hr with ⟨s,h1,rfl⟩ | ⟨q,m,hm,hs,rfl⟩ | ⟨qk,qv,m,mx,h1,h2,hk,hv,rfl⟩ | ⟨s,a,mx,h1,h2,h3,h4,rfl⟩
 ·refine ⟨⟨1,s,[],[],[],0,0⟩,.cons (.refl _) (.cons (.refl _) (.cons (.emp 7) (.cons (.emp 7) (.cons (.emp 7) (.refl _))))),b1h ⟨by dsimp only;omega,fun _=>⟨by dsimp only;omega,rfl⟩,fun hk=>absurd hk (by simp)⟩ (by simp) (by simp) (by simp) (by simp) (by simp) (by simp),.inl ⟨rfl,by dsimp only;omega,rfl,rfl,rfl,rfl,rfl⟩,?_⟩
  rw [a8h (by simp) (by simp;omega)]
  simp;omega
 ·obtain ⟨l,e,hl,hf,hn⟩:=slV hs
  refine ⟨⟨2,[],l,[],[],0,0⟩,.cons (.refl _) (.cons (.refl _) (.cons e (.cons (.emp 7) (.cons (.emp 7) (.refl _))))),b1h ⟨by simp,fun hk=>absurd hk (by simp),fun _=>rfl⟩ (by dsimp only;omega) (by simp) (by simp) hn (by simp) (by simp),.inr (.inl ⟨rfl,rfl,by dsimp only;omega,hf,rfl,rfl,rfl,rfl⟩),?_⟩
  rw [a8h (by simp) (by simp;omega)]
  simp;omega
 ·obtain ⟨l,e,hl,hf,hn⟩:=slV hv
  obtain ⟨w1,w2,w3⟩:=c0S (m:=m) (by omega)
  refine ⟨dct ((b0p m).map nmO) l (mx:Int),.cons (.refl _) (.cons (.refl _) (.cons (.emp 7) (.cons (c7x hk) (.cons e (.refl _))))),b1h ⟨by simp [dct],fun hk=>absurd hk (by simp [dct]),fun _=>rfl⟩ (by simp [dct]) (by simp [dct,w3];omega) (by simp [dct];omega) (by simp [dct]) c7T hn,b8Q (by omega) (by omega) (by omega) (by omega) w1 w2 hf,?_⟩
  unfold Cl.size dct
  dsimp only
  rw [if_pos rfl,if_neg (by omega),if_neg (by omega)]
  omega
 ·refine ⟨⟨4,s,[],[],[],mx,a⟩,.cons (.refl _) (.cons (.refl _) (.cons (.emp 7) (.cons (.emp 7) (.cons (.emp 7) (.refl _))))),b1h ⟨by dsimp only;omega,fun hk=>absurd hk (by simp),fun hk=>absurd hk (by simp)⟩ (by simp) (by simp) (by simp) (by simp) (by simp) (by simp),.inr (.inr (.inr ⟨rfl,by dsimp only;omega,rfl,rfl,rfl,h2,h3,h4⟩)),?_⟩
  rw [a8h (by simp) (by simp;omega)]
  simp;omega
theorem b1k {h:List Cl} {r:List PV} (hr:FV h r):a2Q r:=by
 obtain ⟨o,rfl,_,hn⟩:=hr
 exact ⟨_,_,_,_,_,_,_,hn,rfl⟩
theorem c4G {h:List Cl} {q:PV} {m:Nat} (hs:SlF (FV h) q m) (hm:m≤1000):SlR q m:=by
 rcases hs with h1 | ⟨rr,e,hl,hf⟩
 ·exact .inl h1
 ·exact .inr ⟨rr,e,hl,hm,fun x hx=>b1k (hf x hx)⟩
theorem b8N {h:List Cl} {r:List PV} (hr:b0s (FV h) r):a2P r:=by
 rcases hr with ⟨s,h1,rfl⟩ | ⟨q,m,hm,hs,rfl⟩ | ⟨qk,qv,m,mx,h1,h2,hk,hv,rfl⟩ | ⟨s,a,mx,h1,h2,h3,h4,rfl⟩
 ·exact ⟨_,_,_,_,_,_,_,0,0,0,rfl,⟨by omega,fun _=>⟨by omega,rfl⟩,fun hk=>absurd hk (by decide)⟩,SlR.none,SlR.none,SlR.none⟩
 ·exact ⟨_,_,_,_,_,_,_,m,0,0,rfl,⟨by simp,fun hk=>absurd hk (by decide),fun _=>rfl⟩,c4G hs (by omega),SlR.none,SlR.none⟩
 ·refine ⟨_,_,_,_,_,_,_,0,m,m,rfl,⟨by simp,fun hk=>absurd hk (by decide),fun _=>rfl⟩,SlR.none,?_,c4G hv (by omega)⟩
  rcases hk with hk | rfl
  ·exact .inl hk
  ·refine .inr ⟨_,rfl,by simp,by omega,fun x hx=>?_⟩
   obtain ⟨i,_,rfl⟩:=List.mem_map.1 hx
   exact ⟨_,_,_,_,_,_,_,by decide,rfl⟩
 ·exact ⟨_,_,_,_,_,_,_,0,0,0,rfl,⟨by omega,fun hk=>absurd hk (by decide),fun hk=>absurd hk (by decide)⟩,SlR.none,SlR.none,SlR.none⟩
theorem b6n (C:Laid P) {h:List Cl} (t:a2e h) {H:List (List PV)} (e:LeR H (h.map k9)) (K A B N:Int) (S:List UInt8) (hA:0≤A∧A<256) (hB:0≤B∧B<256) (hN: -2147483648≤N∧N≤2147483647):∃ r,(FV h r∧a2Q r)∧j6 P G c9 [B5 K A B N S,.sl 7 H] [] (.agg r):=by
 have f:FV h (g9 (a8a h K A B N)):=⟨_,rfl,b6b t K A B N hA hB hN,b6w h K A B N hA hN⟩
 exact ⟨_,⟨f,b1k f⟩,a9l (J5 C h t.small K A B N S hA hB hN) (.cons (.refl _) (.cons (b9e e) .nil))⟩
theorem a5U.app {h:List Cl} (t:a5U h) (hl:h.length<20) {c:Cl} (h1:a7b c) (h2:a0R h c) (h3:0≤c.size) (h4:c.size≤41):a5U (h++[c]):=by
 obtain ⟨⟨more,e,hm,hall⟩,hv,q1,q2⟩:=t
 have ml:h.length=10+more.length:=by rw [e,List.length_append];rfl
 refine ⟨⟨more++[c],by rw [e,List.append_assoc],by simp;omega,?_⟩,?_,?_⟩
 ·intro d hd
  rcases List.mem_append.1 hd with hd | hd
  ·exact hall d hd
  ·simp only [List.mem_singleton] at hd;subst hd;exact h1
 ·intro d hd
  rcases List.mem_append.1 hd with hd | hd
  ·exact a1a (fun o ho=>a8G ho) (hv d hd)
  ·simp only [List.mem_singleton] at hd;subst hd;exact a1a (fun o ho=>a8G ho) h2
 ·rw [b5G,wrap_small (by omega) (by omega),List.length_append]
  simp only [List.length_cons,List.length_nil]
  omega
end Go.Ab.Td
namespace Go.Ab.Td
set_option maxRecDepth 100000
set_option maxRecDepth 100000
open Go Go.Ab
structure HI (n:Nat) (h:List Cl):Prop where
 len:10≤h.length∧h.length≤20
 cat:h[4]?=some c4X
 c6h:∀ j:Nat,5≤j→j≤9→∃ c,h[j]?=some c∧c.kind=3
 sz:∀ c ∈ h,c.keys.length≤n∧c.A7.length≤n∧c.items.length≤1000∧c.bytes.length≤4000
 shape:∀ c ∈ h,(c.kind=1→c.items=[]∧c.bytes.length≤1000)∧(c.kind=2→c.bytes=[]∧c.items.length≤1000)
 A7:∀ c ∈ h,∀ o ∈ c.A7,o.n<9223372036854775808
theorem HI.small {n:Nat} {h:List Cl} (t:HI n h) (hn:n≤1000000):small h:=
 ⟨by have:=t.len;omega,fun c hc=>by obtain ⟨a,b,c,d⟩:=t.sz c hc;exact ⟨by omega,by omega,by omega,by omega⟩⟩
theorem b5x {l:List Ob} {m:Nat} (h:SlR (.sl 7 (l.map g9)) m):l.length≤1000:=by
 rcases h with ⟨h, -⟩ | ⟨rr,h,hl,hm, -⟩
 ·cases h
 ·simp only [PV.sl.injEq,true_and] at h
  subst h
  simp only [List.length_map] at hl
  omega
theorem a7b.lens {c:Cl} (h:a7b c):c.keys.length≤1000∧c.A7.length≤1000∧c.items.length≤1000∧c.bytes.length≤4000:=by
 obtain ⟨-, -,k,b,q1,q2,q3,mx,a,m1,m2,m3,he,hb,h1,h2,h3⟩:=h
 simp only [k9,List.cons.injEq,PV.int.injEq,PV.str.injEq,true_and] at he
 obtain ⟨-,e2,e3,e4,e5, -⟩:=he
 subst e2 e3 e4 e5
 exact ⟨b5x h2,b5x h3,b5x h1,hb.1⟩
theorem a2e.hi {h:List Cl} (t:a2e h):HI 1000 h:=by
 have hok:=t.ok
 have hl:=t.len
 obtain ⟨h4,h5,h10⟩:=c3n t
 exact ⟨⟨h10,hl⟩,h4,fun j a b=>⟨_,h5 j a b,rfl⟩,fun c hc=>(hok c hc).lens,fun c hc=>(hok c hc).shape,fun c hc=>(hok c hc).2.1⟩
theorem c0i {c c':Cl} {k v:Ob} (hp:a2l c k v=some c'):c'.kind=c.kind∧c'.bytes=c.bytes∧c'.items=c.items∧c'.keys.length≤c.keys.length+1∧c'.A7.length≤c.A7.length+1∧∀ o ∈ c'.A7,o ∈ c.A7∨o=v:=by
 unfold a2l at hp
 split at hp
 ·cases hp
  refine ⟨rfl,rfl,rfl,by dsimp only;omega,by dsimp only;rw [List.length_set];omega,fun o ho=>?_⟩
  exact List.mem_or_eq_of_mem_set ho
 ·split at hp
  ·cases hp
  ·cases hp
   refine ⟨rfl,rfl,rfl,by dsimp only;rw [List.length_append];simp,by dsimp only;rw [List.length_append];simp,fun o ho=>?_⟩
   dsimp only at ho
   rcases List.mem_append.1 ho with h | h
   ·exact .inl h
   ·exact .inr (by simpa using h)
theorem HI.put {n:Nat} {h:List Cl} (t:HI n h) {j:Nat} (h5:5≤j) (h9:j≤9) {c c':Cl} (hc:h[j]?=some c) {k v:Ob} (hp:a2l c k v=some c') (hv:v.n<9223372036854775808):HI (n+1) (h.set j c'):=by
 obtain ⟨p1,p2,p3,p4,p5,p6⟩:=c0i hp
 have hm:=List.mem_of_getElem? hc
 have hck:c.kind=3:=by
  obtain ⟨d,hd,hk⟩:=t.c6h j h5 h9
  rw [hc] at hd;cases hd;exact hk
 have mem:∀ x ∈ h.set j c',x ∈ h∨x=c':=fun x hx=>List.mem_or_eq_of_mem_set hx
 refine ⟨by rw [List.length_set];exact t.len,?_,fun i a b=>?_,fun x hx=>?_,fun x hx=>?_,fun x hx=>?_⟩
 ·rw [List.getElem?_set_ne (by omega)];exact t.cat
 ·by_cases hij:j=i
  ·subst hij
   rw [List.getElem?_set_self (by have:=(List.getElem?_eq_some_iff.1 hc).1;exact this)]
   exact ⟨c',rfl,by rw [p1];exact hck⟩
  ·rw [List.getElem?_set_ne hij];exact t.c6h i a b
 ·rcases mem x hx with hx | rfl
  ·obtain ⟨a,b,c,d⟩:=t.sz x hx;exact ⟨by omega,by omega,c,d⟩
  ·obtain ⟨a,b,cc,d⟩:=t.sz c hm
   exact ⟨by omega,by omega,by rw [p3];exact cc,by rw [p2];exact d⟩
 ·rcases mem x hx with hx | rfl
  ·exact t.shape x hx
  ·exact ⟨fun hk=>by omega,fun hk=>by omega⟩
 ·rcases mem x hx with hx | rfl
  ·exact t.A7 x hx
  ·intro o ho
   rcases p6 o ho with h | rfl
   ·exact t.A7 c hm o h
   ·exact hv
end Go.Ab.Td
namespace Go.Ab.Td
set_option maxRecDepth 100000
set_option maxRecDepth 100000
open Go Go.Ab
set_option linter.unusedSimpArgs false
theorem b8X (k:Ob):∀ (l:List Ob) (i s:Nat),i9 k s l=((s+i:Nat):Int)→l[i]?=some k
 | [],i,s,h=>by simp [i9] at h;omega
 | x::l,i,s,h=>by
   unfold i9 at h
   by_cases e:x=k
   ·rw [if_pos e] at h
    obtain rfl:i=0:=by omega
    simp [e]
   ·rw [if_neg e] at h
    cases i with
    | zero=>
      rcases b7q k l (s+1) with q | ⟨q, -⟩ <;>omega
    | succ i=>
      simp only [List.getElem?_cons_succ]
      exact b8X k l i (s+1) (by rw [h];congr 1;omega)
theorem b1n (k a:Ob):∀ (l:List Ob) (s:Nat),i9 k s (l++[a])=if 0≤i9 k s l then i9 k s l else if a=k then ((s+l.length:Nat):Int) else -1
 | [],s=>by simp [i9]
 | x::l,s=>by
   simp only [List.cons_append]
   unfold i9
   by_cases e:x=k
   ·rw [if_pos e,if_pos e,if_pos (by omega)]
   ·rw [if_neg e,if_neg e,b1n k a l (s+1)]
    simp only [List.length_cons]
    split
    ·rfl
    ·split
     ·congr 1;omega
     ·rfl
def c5o (k:Ob):Prop:=k.kind≠0∧k.kind≠6∧k.key=k
theorem b4c {l:List Ob}:b9d l↔(∀ k ∈ l,c5o k)∧l.Pairwise (·≠·):=by
 constructor
 ·intro h
  refine ⟨fun k hk=>?_,List.pairwise_iff_getElem.2 fun i j hi hj hij e=>?_⟩
  ·obtain ⟨i,hi⟩:=List.getElem?_of_mem hk
   obtain ⟨a,b,c, -⟩:=h i k hi
   exact ⟨a,b,c⟩
  ·obtain ⟨-, -, -,d⟩:=h j l[j] (List.getElem?_eq_getElem hj)
   have q:=(a8I l[j] l j 0 (List.getElem?_eq_getElem hj)).1 (List.mem_take_iff_getElem.2 ⟨i,by omega,e⟩)
   omega
 ·rintro ⟨h1,h2⟩ i k hk
  obtain ⟨a,b,c⟩:=h1 k (List.mem_of_getElem? hk)
  refine ⟨a,b,c,?_⟩
  have no:¬ k ∈ l.take i:=by
   intro hm
   obtain ⟨j,hj,e⟩:=List.mem_take_iff_getElem.1 hm
   obtain ⟨hi,e2⟩:=List.getElem?_eq_some_iff.1 hk
   exact List.pairwise_iff_getElem.1 h2 j i (by omega) hi (by omega) (by rw [e,e2])
  rw [a8I k l i 0 hk] at no
  omega
theorem c1B {k:Ob} {l:List Ob} (h:¬ k ∈ l):i9 k 0 l<0:=by
 have:=mt (a6P k l 0).1 h
 omega
theorem c3i {h:List Cl} {c:Cl} (hr:a0R h c) (h3:c.kind=3):c.bytes=[]∧c.items.length=0∧c.at'=0∧0≤c.max∧c.max≤200∧c.keys.length=c.A7.length∧(c.keys.length:Int)≤c.max∧(∀ o ∈ c.keys,fits h o)∧(∀ o ∈ c.A7,fits h o)∧b9d c.keys:=by
 rcases hr with ⟨e, -⟩ | ⟨e, -⟩ | ⟨-,r⟩ | ⟨e, -⟩
 ·omega
 ·omega
 ·exact r
 ·omega
theorem b1o {k:Ob} {l:List Ob} (h:k ∈ l):∃ i:Nat,i9 k 0 l=(i:Int)∧i<l.length∧l[i]?=some k:=by
 obtain ⟨i,hi,hl⟩:=c5k ((a6P k l 0).2 h)
 exact ⟨i,hi,hl,b8X k l i 0 (by rw [hi];congr 1;omega)⟩
theorem c0j {h:List Cl} {c c':Cl} {k v:Ob} (hr:a0R h c) (h3:c.kind=3) (hk:c5o k) (hkf:fits h k) (hvf:fits h v) (hp:a2l c k v=some c'):
 a0R h c'∧c'.kind=3∧c'.size=c.size∧look c' k=some v∧(∀ l,l≠k→look c' l=look c l)∧(c'.keys.length=c.keys.length∨c'.keys.length=c.keys.length+1)∧k ∈ c'.keys:=by
 obtain ⟨a1,a2,a3,a4,a5,a6,a7,a8,a9,a10⟩:=c3i hr h3
 unfold a2l at hp
 split at hp
 ·rename_i hi
  cases hp
  obtain ⟨i,hi2,hil,hik⟩:=b1o ((a6P k c.keys 0).1 hi.1)
  rw [hi2] at hi ⊢
  refine ⟨.inr (.inr (.inl ⟨h3,a1,a2,a3,a4,a5,by dsimp only;rw [List.length_set];exact a6,a7,a8,fun o ho=>?_,a10⟩)),h3,rfl,?_,fun l hl=>?_,.inl rfl,List.mem_of_getElem? hik⟩
  ·rcases List.mem_or_eq_of_mem_set ho with ho | rfl
   ·exact a9 o ho
   ·exact hvf
  ·unfold look
   dsimp only
   rw [hi2,if_neg (by omega)]
   simp only [Int.toNat_natCast]
   rw [List.getElem?_set_self (by omega)]
  ·unfold look
   dsimp only
   by_cases hl0:i9 l 0 c.keys<0
   ·rw [if_pos hl0,if_pos hl0]
   ·rw [if_neg hl0,if_neg hl0]
    obtain ⟨j,hj,hjl,hjk⟩:=b1o ((a6P l c.keys 0).1 (by omega))
    rw [hj]
    simp only [Int.toNat_natCast]
    rw [List.getElem?_set_ne]
    intro e
    subst e
    rw [hik] at hjk
    cases hjk
    exact hl rfl
 ·rename_i hi
  split at hp
  ·cases hp
  ·rename_i hm
   cases hp
   have hno:¬ k ∈ c.keys:=by
    intro hx
    obtain ⟨i,hi2,hil, -⟩:=b1o hx
    exact hi (by rw [hi2];omega)
   have hneg:=c1B hno
   obtain ⟨g1,g2⟩:=b4c.1 a10
   refine ⟨.inr (.inr (.inl ⟨h3,a1,a2,a3,a4,a5,by simp [a6],by dsimp only;rw [List.length_append];simp;omega,fun o ho=>?_,fun o ho=>?_,b4c.2 ⟨fun o ho=>?_,?_⟩⟩)),h3,rfl,?_,fun l hl=>?_,.inr (by simp),by simp⟩
   ·rcases List.mem_append.1 ho with ho | ho
    ·exact a8 o ho
    ·simp only [List.mem_singleton] at ho;subst ho;exact hkf
   ·rcases List.mem_append.1 ho with ho | ho
    ·exact a9 o ho
    ·simp only [List.mem_singleton] at ho;subst ho;exact hvf
   ·rcases List.mem_append.1 ho with ho | ho
    ·exact g1 o ho
    ·simp only [List.mem_singleton] at ho;subst ho;exact hk
   ·refine List.pairwise_append.2 ⟨g2,List.pairwise_singleton _ _,fun a ha b hb e=>?_⟩
    simp only [List.mem_singleton] at hb
    subst hb e
    exact hno ha
   ·have e:i9 k 0 (c.keys++[k])=(c.keys.length:Int):=by
     rw [b1n,if_neg (show ¬ 0≤i9 k 0 c.keys by omega),if_pos rfl,Nat.zero_add]
    unfold look
    dsimp only
    rw [e,if_neg (by omega)]
    simp only [Int.toNat_natCast]
    rw [List.getElem?_append_right (by omega),a6]
    simp
   ·unfold look
    dsimp only
    by_cases hl0:i9 l 0 c.keys<0
    ·have e:i9 l 0 (c.keys++[k])= -1:=by
      rw [b1n,if_neg (show ¬ 0≤i9 l 0 c.keys by omega),if_neg (fun e=>hl e.symm)]
     rw [e,if_pos (by decide),if_pos hl0]
    ·have e:i9 l 0 (c.keys++[k])=i9 l 0 c.keys:=by
      rw [b1n,if_pos (show 0≤i9 l 0 c.keys by omega)]
     rw [e,if_neg hl0,if_neg hl0]
     obtain ⟨j,hj,hjl,hjk⟩:=b1o ((a6P l c.keys 0).1 (by omega))
     rw [hj]
     simp only [Int.toNat_natCast]
     rw [List.getElem?_append_left (by omega)]
end Go.Ab.Td
namespace Go.Ab.Td
set_option maxRecDepth 100000
open Go Go.Ab
variable {P:Program}
set_option linter.unusedSimpArgs false
attribute [local irreducible] d8
end Go.Ab.Td
namespace Go.Ab.Td
set_option maxRecDepth 100000
set_option maxRecDepth 100000
open Go Go.Ab Go.ChangeShapes
theorem b8W {α:Type} {f:α→List PV} {ts:List Ty} {Q:α→Prop} (one:∀ qs,b5P qs ts→∃ o,qs=f o∧Q o):∀ (rows:List (List PV)),(∀ row ∈ rows,row.length=ts.length)→(∀ row ∈ rows,∀ (j:Nat) (q:PV) (t:Ty),row[j]?=some q→ts[j]?=some t→Has t q)→∃ l:List α,rows=l.map f∧∀ o ∈ l,Q o
 | [],_,_=>⟨[],rfl,by simp⟩
 | r::rows,h1,h2=>by
   obtain ⟨o,e,hq⟩:=one r ⟨h1 r (by simp),h2 r (by simp)⟩
   obtain ⟨l,e2,hl⟩:=b8W one rows (fun x hx=>h1 x (by simp [hx])) (fun x hx=>h2 x (by simp [hx]))
   exact ⟨o::l,by rw [e,e2];rfl,by simpa using ⟨hq,hl⟩⟩
theorem c5f {p:PV} (h:a9A (false,[.int .i64]) p):∃ n,p= .int .i64 n∧ -9223372036854775808≤n∧n<9223372036854775808:=by
 obtain ⟨qs,e,hl,h⟩:=h
 simp only [a8y] at e
 subst e
 have k:=h 0 _ _ rfl rfl
 cases k with
 | int w=>exact ⟨_,rfl,c5j w⟩
end Go.Ab.Td
namespace Go.Ab.Td
set_option maxRecDepth 100000
set_option maxRecDepth 100000
open Go Go.Ab Go.ChangeShapes
theorem Wd.word (w:Wd):a4u w.row:=⟨_,_,_,_,_,rfl,w.hA,w.hB,w.hN⟩
theorem b3Z {rows:List (List PV)} (hw:∀ row ∈ rows,row.length=a3p.length) (h:∀ row ∈ rows,∀ (j:Nat) (q:PV) (t:Ty),row[j]?=some q→a3p[j]?=some t→Has t q):∀ r ∈ rows,a4u r:=by
 intro r hr
 obtain ⟨w,rfl⟩:=c1z ⟨hw r hr,h r hr⟩
 exact w.word
theorem b9N {p:PV} (h:a9A (true,b8S) p):∃ cells ops d9,p= .agg [.sl 5 cells,.sl 5 ops,.sl 1 d9]∧(∀ r ∈ cells,a4u r)∧(∀ r ∈ ops,a4u r)∧∀ r ∈ d9,∃ D,r=[.int .u8 D]∧0≤D∧D<256:=by
 obtain ⟨qs,e,hl,h⟩:=h
 simp only [a8y] at e
 subst e
 match qs,hl with
 | [a,b,c],_=>
   have k0:=h 0 _ _ rfl rfl
   have k1:=h 1 _ _ rfl rfl
   have k2:=h 2 _ _ rfl rfl
   cases k0 with
   | sl w0 g0=>
   cases k1 with
   | sl w1 g1=>
   cases k2 with
   | sl w2 g2=>
     refine ⟨_,_,_,rfl,b3Z w0 g0,b3Z w1 g1,fun r hr=>?_⟩
     have hlr:=w2 r hr
     match r,hlr with
     | [q],_=>
       have k:=g2 _ hr 0 _ _ rfl rfl
       cases k with
       | int w=>exact ⟨_,rfl,b9w w⟩
def nC (c:Cl):Prop:=(∀ o ∈ c.items,o.n<9223372036854775808)∧(∀ o ∈ c.keys,o.n<9223372036854775808)∧∀ o ∈ c.A7,o.n<9223372036854775808
end Go.Ab.Td
namespace Go.Ab.Td
set_option maxRecDepth 100000
set_option maxRecDepth 100000
open Go Go.Ab
theorem nC.c8Q {c:Cl} (h:nC c):∀ l ∈ c1Q c,∀ o ∈ l,o.n<9223372036854775808:=by
 unfold c1Q
 exact c7O.2 h
theorem c2i {l:List Ob} {m:Nat} (h:SlR (.sl 7 (l.map g9)) m):∀ o ∈ l,o.n<9223372036854775808:=by
 intro o ho
 rcases h with ⟨h1, -⟩ | ⟨rr,h1, -, -,hf⟩
 ·cases h1
 ·simp only [PV.sl.injEq,true_and] at h1
  subst h1
  obtain ⟨k,e,n,s,r,f,l,hn,he⟩:=hf (g9 o) (List.mem_map_of_mem ho)
  simp only [g9,List.cons.injEq,PV.int.injEq,true_and] at he
  rw [he.2.2.1]
  exact hn
theorem a7b.nC {c:Cl} (h:a7b c):nC c:=by
 obtain ⟨-, -,k,b,q1,q2,q3,mx,a,m1,m2,m3,he, -,h1,h2,h3⟩:=h
 simp only [k9,List.cons.injEq,PV.int.injEq,PV.str.injEq,true_and] at he
 obtain ⟨-, -,e1,e2,e3, -⟩:=he
 subst e1 e2 e3
 exact ⟨c2i h1,c2i h2,c2i h3⟩
theorem c1v {h:List Cl} {o:Ob} (hf:fits h o) (hk:o.kind=9):∃ c,h[o.ref.toNat]?=some c∧cellAt h o=c∧c.kind=3∧True:=by
 obtain ⟨h1,h2, -⟩:=a9J hf (by rw [hk];decide)
 rw [hk] at h2
 exact ⟨_,h1,rfl,h2,trivial⟩
end Go.Ab.Td
namespace Go.Ab.Td
set_option maxRecDepth 100000
set_option maxRecDepth 100000
open Go Go.Ab
variable {P:Program}
set_option linter.unusedSimpArgs false
attribute [local irreducible] d8
theorem b5S {h:List Cl} {c:Cl} (hr:a0R h c):c.small:=by
 rcases hr with ⟨-,h1,h2,h3,h4, -⟩ | ⟨-,h1,h2, -,h4,h5, -⟩ | ⟨-,h1,h2, -,h4,h5,h6,h7, -⟩ | ⟨-,h1,h2,h3,h4, -⟩
 ·exact ⟨by omega,by omega,by omega,by omega⟩
 ·exact ⟨by omega,by omega,by omega,by rw [h1];simp⟩
 ·exact ⟨by omega,by omega,by omega,by rw [h1];simp⟩
 ·exact ⟨by omega,by omega,by omega,by omega⟩
theorem b7c {h:List Cl} (hv:a2c h) (hl:h.length≤1000000):small h:=⟨hl,fun c hc=>b5S (hv.1 c hc)⟩
theorem c5s {c c':Cl} {k v:Ob} (hc:nC c) (hk:k.n<9223372036854775808) (hv:v.n<9223372036854775808) (hp:a2l c k v=some c'):nC c':=by
 obtain ⟨n1,n2,n3⟩:=hc
 unfold a2l at hp
 split at hp
 ·cases hp
  refine ⟨n1,n2,fun o ho=>?_⟩
  rcases List.mem_or_eq_of_mem_set ho with ho | rfl
  ·exact n3 o ho
  ·exact hv
 ·split at hp
  ·cases hp
  ·cases hp
   refine ⟨n1,fun o ho=>?_,fun o ho=>?_⟩
   ·rcases List.mem_append.1 ho with ho | ho
    ·exact n2 o ho
    ·simp only [List.mem_singleton] at ho;subst ho;exact hk
   ·rcases List.mem_append.1 ho with ho | ho
    ·exact n3 o ho
    ·simp only [List.mem_singleton] at ho;subst ho;exact hv
theorem b7x {h:List Cl} {c:Cl} (hs:∀ d ∈ h,nC d) (hc:nC c) (j:Nat):∀ d ∈ h.set j c,nC d:=by
 intro d hd
 rcases List.mem_or_eq_of_mem_set hd with hd | rfl
 ·exact hs d hd
 ·exact hc
end Go.Ab.Td

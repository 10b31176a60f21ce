/- A part of the proof: the texts TdSp2, TdSp, TdLaid. Under: nothing. -/
import Derived.Test.YtngmifmcohmfmaaDoorS2a
import Derived.Test.YtngmifmcohmfmaaDoorS2b
import Derived.Test.YtngmifmcohmfmaaDoorS2c
import Derived.Test.YtngmifmcohmfmaaDoorS2d
import Derived.Test.YtngmifmcohmfmaaDoorG43b
import Derived.Test.YtngmifmcohmfmaaDoorG43a
import Derived.Test.YtngmifmcohmfmaaDoorG33
import Derived.Test.YtngmifmcohmfmaaDoorG36
import Derived.Test.YtngmifmcohmfmaaDoorG06
import Derived.Test.YtngmifmcohmfmaaDoorChecked
import Derived.KernelRfl
set_option linter.unusedVariables false
namespace Go.Ab.Td
set_option maxRecDepth 100000
set_option maxRecDepth 100000
open Go Go.Ab
variable {P:Program}
set_option linter.unusedSimpArgs false
attribute [local irreducible] j6
theorem b1T (C:Laid P) (cells ops k8:List (List PV)) (w0 w1 w2:Wd) (c0 c1:Int) (s:Q0) (key o m0 k m:Ob) (e1 e2:Int) (cs cs2:List UInt8)
 (ht0:0≤c0.tmod 5) (ht1:0≤c1.tmod 5) (hcs:(a1y.map fun c=>[PV.str c])[(c0.tmod 5).toNat]?=some [PV.str cs]) (hcs2:(a1y.map fun c=>[PV.str c])[(c1.tmod 5).toNat]?=some [PV.str cs2])
 (kst:l9 P G B3 [.agg [.sl 5 cells,.sl 5 ops,.sl 1 k8]] [] (aS s))
 (kk:l9 P G i7 [.agg w0.row,.sl 7 (List.map m9 s.heap)] [] (.agg (m6 key))) (ko:l9 P G i7 [.agg w1.row,.sl 7 (List.map m9 s.heap)] [] (.agg (m6 o))) (km:l9 P G i7 [.agg w2.row,.sl 7 (List.map m9 s.heap)] [] (.agg (m6 m0)))
 (kk1:l9 P G A9 [.sl 7 (List.map m9 s.heap),aO key] [] (.s9 [aO k,pI e1])) (kk2:l9 P G A9 [.sl 7 (List.map m9 s.heap),aO m0] [] (.s9 [aO m,pI e2])) (he1:e1=0) (t u:Q0) (od od2:Ob) (oe oe2:Int)
 (kD:l9 P G k7 [aS (S3 s key o cs),.str a3q] [] (.s9 [aS t,pI 0])) (kF1:l9 P G p7 [aS t,.str cs,aO k] [] (.s9 [aO o,pI 0]))
 (kE:l9 P G s7 [.sl 7 (List.map m6 t.ops),.sl 7 (List.map m6 [o])] [] (.bool true)) (kc2:l9 P G A8 [.sl 7 (List.map m9 t.heap)] [] (pI 0))
 (kTh:l9 P G x2 [aS t,.sl 7 (List.map m6 [key,D1 cs])] [] (aS (S2 t key cs))) (kT:l9 P G F4 [.bool true] [] (aO (⟨2,false,1,[],0,0,0⟩:Ob)))
 (kIs1:l9 P G J6 [aS (S2 t key cs),.str [114,101,115,111,117,114,99,101,115,116,97,116,117,115],.sl 7 (List.map m6 [(⟨2,false,1,[],0,0,0⟩:Ob)])] [] (.bool true)) (kIs2:l9 P G J6 [aS (S2 t key cs),.str [102,105,110,100,114,101,115,111,117,114,99,101],.sl 7 (List.map m6 [o])] [] (.bool true))
 (kA:l9 P G p7 [aS s,.str cs2,aO m] [] (.s9 [aO od,pI oe])) (kB:l9 P G p7 [aS t,.str cs2,aO m] [] (.s9 [aO od2,pI oe2])) (hAB:(m≠k∨cs≠cs2)→od=od2∧oe=oe2)
 (kR:l9 P G k7 [aS (S2 t key cs),.str [117,110,100,101,102,105,110,101,114,101,115,111,117,114,99,101]] [] (.s9 [aS u,pI 0])) (kF3:l9 P G p7 [aS u,.str cs,aO k] [] (.s9 [aO L5,pI 40]))
 (kTh3:l9 P G x2 [aS u,.sl 7 (List.map m6 [key,D1 cs])] [] (aS (S2 u key cs))) (kR3:l9 P G k7 [aS (S2 u key cs),.str [117,110,100,101,102,105,110,101,114,101,115,111,117,114,99,101]] [] (.s9 [aS u,pI 0]))
 (uo:u.ops=[]) (kSS:l9 P G B1 [aS u,aS u] [] (.bool true)) (kc3:l9 P G A8 [.sl 7 (List.map m9 u.heap)] [] (pI 0)):l9 P G C2 [.agg [.sl 5 cells,.sl 5 ops,.sl 1 k8],.agg (w0.row++(w1.row++w2.row)),.int .u8 c0,.int .u8 c1] [] (.bool true):=by
 by_cases he2:e2=0
 ·by_cases hmk:m=k
  ·by_cases hcc:cs=cs2
   ·exact ok_keeps_main_d C cells ops k8 w0 w1 w2 c0 c1 s key o m0 k m e1 e2 cs cs2 ht0 ht1 hcs hcs2 kst kk ko km kk1 kk2 he1 t u od od2 oe oe2 kD kF1 kE kc2 kTh kT kIs1 kIs2 kA kB hAB kR kF3 kTh3 kR3 uo kSS kc3 he2 hmk hcc
   ·exact ok_keeps_main_c C cells ops k8 w0 w1 w2 c0 c1 s key o m0 k m e1 e2 cs cs2 ht0 ht1 hcs hcs2 kst kk ko km kk1 kk2 he1 t u od od2 oe oe2 kD kF1 kE kc2 kTh kT kIs1 kIs2 kA kB hAB kR kF3 kTh3 kR3 uo kSS kc3 he2 hmk hcc
  ·exact ok_keeps_main_b C cells ops k8 w0 w1 w2 c0 c1 s key o m0 k m e1 e2 cs cs2 ht0 ht1 hcs hcs2 kst kk ko km kk1 kk2 he1 t u od od2 oe oe2 kD kF1 kE kc2 kTh kT kIs1 kIs2 kA kB hAB kR kF3 kTh3 kR3 uo kSS kc3 he2 hmk
 ·exact ok_keeps_main_a C cells ops k8 w0 w1 w2 c0 c1 s key o m0 k m e1 e2 cs cs2 ht0 ht1 hcs hcs2 kst kk ko km kk1 kk2 he1 t u od od2 oe oe2 kD kF1 kE kc2 kTh kT kIs1 kIs2 kA kB hAB kR kF3 kTh3 kR3 uo kSS kc3 he2
end Go.Ab.Td
namespace Go.Ab.Td
set_option maxRecDepth 100000
set_option maxRecDepth 100000
open Go Go.Ab
variable {P:Program}
set_option linter.unusedSimpArgs false
attribute [local irreducible] j6
theorem c2t {cs:List UInt8} (hc:cs ∈ a1y) {j:Int} (hl:look a4L (D1 cs)=some (dO j)):(cs=[70,111,110,116]∧j=5)∨(cs=[80,97,116,116,101,114,110]∧j=6)∨(cs=[69,110,99,111,100,105,110,103]∧j=7)∨(cs=[70,111,114,109]∧j=8)∨(cs=[71,101,110,101,114,105,99]∧j=9):=by
 simp only [a1y,List.mem_cons,List.not_mem_nil,or_false] at hc
 have inj:∀ x:Int,look a4L (D1 cs)=some (dO x)→j=x:=by
  intro x hx
  rw [hx] at hl
  have e:=Option.some.inj hl
  simp only [dO,Ob.mk.injEq,true_and,and_true] at e
  exact e.symm
 rcases hc with rfl | rfl | rfl | rfl | rfl
 ·exact .inl ⟨rfl,inj 5 rfl⟩
 ·exact .inr (.inl ⟨rfl,inj 6 rfl⟩)
 ·exact .inr (.inr (.inl ⟨rfl,inj 7 rfl⟩))
 ·exact .inr (.inr (.inr (.inl ⟨rfl,inj 8 rfl⟩)))
 ·exact .inr (.inr (.inr (.inr ⟨rfl,inj 9 rfl⟩)))
theorem c0E {cs cs2:List UInt8} (hc:cs ∈ a1y) (hc2:cs2 ∈ a1y) {j:Int} (hl:look a4L (D1 cs)=some (dO j)) (hl2:look a4L (D1 cs2)=some (dO j)):cs=cs2:=by
 rcases c2t hc hl with ⟨rfl,h⟩ | ⟨rfl,h⟩ | ⟨rfl,h⟩ | ⟨rfl,h⟩ | ⟨rfl,h⟩ <;>rcases c2t hc2 hl2 with ⟨rfl,h2⟩ | ⟨rfl,h2⟩ | ⟨rfl,h2⟩ | ⟨rfl,h2⟩ | ⟨rfl,h2⟩ <;>first | rfl | omega
theorem b4F {cs:List UInt8} {o:Ob} (hx:¬ a2S cs o):cs≠[71,101,110,101,114,105,99]:=by
 rintro rfl
 apply hx
 unfold a2S
 rw [if_neg (by decide),if_neg (by decide)]
 trivial
theorem b9f {h:List Cl} {c:Cl} {k:Ob} (hr:T5 h c) (h3:c.kind=3) (hl:look c k=none):i9 k 0 c.keys<0:=by
 obtain ⟨a1,a2,a3,a4,a5,a6,a7,a8,a9,a10⟩:=b3c hr h3
 by_cases h0:i9 k 0 c.keys<0
 ·exact h0
 ·exfalso
  unfold look at hl
  rw [if_neg h0] at hl
  rcases b3h k c.keys 0 with q | ⟨q1,q2⟩
  ·omega
  ·have:=List.getElem?_eq_none_iff.1 hl
   omega
theorem b6Z {h:List Cl} {j j2:Int} {c:Cl} (h0:0≤j) (h2:0≤j2) (hne:j2≠j):cellAt (h.set j.toNat c) (dO j2)=cellAt h (dO j2):=by
 unfold cellAt
 rw [List.getElem?_set_ne (by show j.toNat≠j2.toNat;omega)]
theorem b5I {h:List Cl} (hs:small h):big h:=⟨by have:=hs.1;omega,fun c hc=>by obtain ⟨h1,h2,h3,h4⟩:=hs.2 c hc;exact ⟨by omega,by omega,by omega⟩⟩
set_option maxHeartbeats 4000000 in
theorem a5h (C:Laid P) (cells ops k8:List (List PV)) (hc:∀ r ∈ cells,a6P r) (ho:∀ r ∈ ops,b6f r) (hd:∀ r ∈ k8,∃ D,r=[.int .u8 D]∧0≤D∧D<256) (w0 w1 w2:Wd) (c0 c1:Int) (h0:0≤c0) (h1:0≤c1):l9 P G C2 [.agg [.sl 5 cells,.sl 5 ops,.sl 1 k8],.agg (w0.row++(w1.row++w2.row)),.int .u8 c0,.int .u8 c1] [] (.bool true):=by
 obtain ⟨s,⟨hst,hv⟩,kst⟩:=b5v C cells ops k8 hc ho hd
 have rh:=hv.rh
 obtain ⟨key,kn,kf,kk⟩:=b5Z C hv.1 w0
 obtain ⟨o,on,of',ko⟩:=b5Z C hv.1 w1
 obtain ⟨m0,mn,mf,km⟩:=b5Z C hv.1 w2
 have kk1:=D5 C s.heap key kn
 have kk2:=D5 C s.heap m0 mn
 have g1:=b9a kn kf
 obtain ⟨⟨k,e1⟩,hk1⟩:∃ p,o0 s.heap key=p:=⟨_,rfl⟩
 obtain ⟨⟨m,e2⟩,hk2⟩:∃ p,o0 s.heap m0=p:=⟨_,rfl⟩
 rw [hk1] at kk1 g1
 rw [hk2] at kk2
 dsimp only at kk1 kk2 g1
 have hf3:s.f3=([]:List Sn).map b2m:=by obtain ⟨_,_,_,rfl,_⟩:=hst;rfl
 have hf62:s.f62=([]:List Q0).map grO:=by obtain ⟨_,_,_,rfl,_⟩:=hst;rfl
 have hdl:s.k8.length≤1000000:=by obtain ⟨o1,d1,p1,rfl,_,_,_,_,h6,_⟩:=hst;show d1.length≤1000000;omega
 obtain ⟨cs,hcs,hmem⟩:=b8L h0
 obtain ⟨cs2,hcs2,hmem2⟩:=b8L h1
 have ht0:=Int.tmod_nonneg 5 h0
 have ht1:=Int.tmod_nonneg 5 h1
 obtain ⟨j,j5,j9,jl,jc⟩:=b2i hmem
 obtain ⟨j2,j25,j29,j2l,j2c⟩:=b2i hmem2
 have a:RA s key cs j:=⟨rh,kn,kf,jc,j5,j9,jl⟩
 obtain ⟨wK,wA,wB,wN,wS,wa1,wa2,wa3⟩:=w0
 obtain ⟨xK,xA,xB,xN,xS,xa1,xa2,xa3⟩:=w1
 obtain ⟨yK,yA,yB,yN,yS,ya1,ya2,ya3⟩:=w2
 by_cases he1:e1=0
 ·subst he1
  by_cases hx:a2S cs o
  ·obtain ⟨gk,gkf,gkn⟩:=g1 rfl
   obtain ⟨q1,q2,q3,c,hcc,ec,hck,hcr,hnc⟩:=rh.dic jl j5 j9
   cases hp:a0K c k o with
   | none=>
     have kD:=a.b8O C on (by rw [hk1]) hx (by rw [hk1,ec];exact hp)
     exact a3L C cells ops k8 ⟨wK,wA,wB,wN,wS,wa1,wa2,wa3⟩ ⟨xK,xA,xB,xN,xS,xa1,xa2,xa3⟩ ⟨yK,yA,yB,yN,yS,ya1,ya2,ya3⟩ c0 c1 s key o m0 k m _ e2 cs cs2 ht0 ht1 hcs hcs2 kst kk ko km kk1 kk2 _ 30 kD (by decide) (.inr ⟨rfl,.inr rfl⟩)
   | some c2=>
     have kD:=a.c3h C on (by rw [hk1]) hx (c':=c2) (by rw [hk1,ec];exact hp)
     obtain ⟨r2,k32,hsz,lk,ll,lc,mk⟩:=b7I hcr hck gk gkf of' hp
     have hlt:=(List.getElem?_eq_some_iff.1 hcc).1
     have rh2:RH (s.heap.set j.toNat c2):=rh.set (by omega) (by omega) hcc k32 hsz r2 (b9j hnc gkn on hp)
     have ec2:cellAt (s.heap.set j.toNat c2) (dO j)=c2:=a9o (o:=dO j) hlt
     have hk2':o0 (s.heap.set j.toNat c2) key=(k,0):=by rw [b4p hcc hck k32,hk1]
     have hcc2:(s.heap.set j.toNat c2)[j.toNat]?=some c2:=List.getElem?_set_self hlt
     have r22:=rh2.valid.1 c2 (List.mem_of_getElem? hcc2)
     obtain ⟨t2,ht2⟩:∃ t2:Q0,t2={s with ops:=[o],heap:=s.heap.set j.toNat c2}:=⟨_,rfl⟩
     rw [← ht2] at kD
     have th:t2.heap=s.heap.set j.toNat c2:=by rw [ht2]
     have to:t2.ops=[o]:=by rw [ht2]
     have t3:t2.f3=([]:List Sn).map b2m:=by rw [ht2];exact hf3
     have t62:t2.f62=([]:List Q0).map grO:=by rw [ht2];exact hf62
     have td:t2.k8.length≤1000000:=by rw [ht2];exact hdl
     clear ht2
     have a2:RA t2 key cs j:=⟨by rw [th];exact rh2,kn,by rw [th];exact (a6t hcc hck k32 key).2 kf,jc,j5,j9,jl⟩
     have hh2:o0 t2.heap key=(k,0):=by rw [th];exact hk2'
     have ec2':cellAt t2.heap (dO j)=c2:=by rw [th];exact ec2
     have n2:nOk t2:=⟨by rw [th];exact rh2.sm,by rw [to];simp,by rw [to];intro x hx;simp at hx;rw [hx];exact on,by rw [th];exact fun d hd=>(rh2.nc d hd).2.2⟩
     obtain ⟨fo,fe⟩:=a2.rh.find jl j5 j9 k
     rw [ec2',lk] at fo fe
     have kF1:=T3 C t2 cs k n2
     rw [fo,fe] at kF1
     dsimp only [Option.getD_some,Option.isSome_some] at kF1
     rw [if_pos rfl] at kF1
     have kE:l9 P G s7 [.sl 7 (List.map m6 t2.ops),.sl 7 (List.map m6 [o])] [] (.bool true):=by rw [to];exact a6X C [o] (by simp)
     have kc2:=kc0 C a2.rh.valid (by have:=a2.rh.len;omega) a2.rh.nc
     have kIs1:=a9y C (S2 t2 key cs) _ _ ⟨2,false,1,[],0,0,0⟩ (a2.c0d C (by rw [hh2]) (v:=o) (by rw [hh2,ec2'];exact lk)) rfl
     have kIs2:=a9y C (S2 t2 key cs) _ _ o (a2.c0Q C (by rw [hh2]) (v:=o) (by rw [hh2,ec2'];exact lk)) rfl
     have kT:l9 P G F4 [.bool true] [] (aO ⟨2,false,1,[],0,0,0⟩):=b1h C true
     have kTh:=J7 C t2 [key,D1 cs]
     obtain ⟨q,hi,hik,hiv,rr,lr⟩:=b7K r22 k32 mk
     have kR0:=a2.c0Z C (by rw [hh2]) (q:=q) (by rw [hh2,ec2'];exact hi) (by rw [ec2'];exact hik) (by rw [ec2'];exact hiv)
     rw [ec2',th] at kR0
     have rh3:RH ((s.heap.set j.toNat c2).set j.toNat (a0z c2 q)):=rh2.set (c':=a0z c2 q) (by omega) (by omega) hcc2 k32 rfl rr (c3w (b9j hnc gkn on hp) q)
     obtain ⟨u,hu⟩:∃ u:Q0,u={t2 with ops:=[],heap:=(s.heap.set j.toNat c2).set j.toNat (a0z c2 q)}:=⟨_,rfl⟩
     rw [← hu] at kR0
     have uh:u.heap=(s.heap.set j.toNat c2).set j.toNat (a0z c2 q):=by rw [hu]
     have uo:u.ops=[]:=by rw [hu]
     have u3:u.f3=([]:List Sn).map b2m:=by rw [hu];exact t3
     have u62:u.f62=([]:List Q0).map grO:=by rw [hu];exact t62
     have ud:u.k8.length≤1000000:=by rw [hu];exact td
     clear hu
     have ec3:cellAt u.heap (dO j)=a0z c2 q:=by rw [uh];exact a9o (o:=dO j) (by rw [List.length_set];exact hlt)
     have a3:RA u key cs j:=⟨by rw [uh];exact rh3,kn,by rw [uh];exact (a6t (c':=a0z c2 q) hcc2 k32 k32 key).2 ((a6t hcc hck k32 key).2 kf),jc,j5,j9,jl⟩
     have hh3:o0 u.heap key=(k,0):=by rw [uh,b4p (c':=a0z c2 q) hcc2 k32 k32];exact hk2'
     have n3:nOk u:=⟨a3.rh.sm,by rw [uo];simp,by rw [uo];simp,fun d hd=>(a3.rh.nc d hd).2.2⟩
     obtain ⟨fo3,fe3⟩:=a3.rh.find jl j5 j9 k
     rw [ec3,lr] at fo3 fe3
     have kF3:=T3 C u cs k n3
     rw [fo3,fe3] at kF3
     dsimp only [Option.getD_none,Option.isSome_none] at kF3
     rw [if_neg (by decide)] at kF3
     have kTh3:=J7 C u [key,D1 cs]
     have kR3:=a3.c3E C (by rw [hh3]) (by rw [hh3,ec3];exact b9f (h:=u.heap) (a3.rh.valid.1 (a0z c2 q) (by rw [uh];exact List.mem_of_getElem? (List.getElem?_set_self (by rw [List.length_set];exact hlt)))) k32 lr)
     rw [show ({u with ops:=[]}:Q0)=u by rw [← uo]] at kR3
     have kc3:=kc0 C a3.rh.valid (by have:=a3.rh.len;omega) a3.rh.nc
     have kSS:=a7y C u [] [] u3 u62 (b5I a3.rh.sm) (by simp) (by simp) (by simp) (by rw [uo];simp) ud
     have lkE:(m≠k∨cs≠cs2)→look (cellAt t2.heap (dO j2)) m=look (cellAt s.heap (dO j2)) m:=by
      intro hor
      rw [th]
      by_cases hj:j2=j
      ·subst hj
       have hcc':=c0E hmem hmem2 jl j2l
       rw [ec2,ec]
       exact ll m (hor.resolve_right (fun x=>x hcc'))
      ·rw [b6Z (by omega) (by omega) hj]
     obtain ⟨oA,eA⟩:=rh.find j2l j25 j29 m
     obtain ⟨oB,eB⟩:=a2.rh.find j2l j25 j29 m
     have nS:nOk s:=⟨rh.sm,by obtain ⟨o1,d1,p1,rfl,_,h6,_⟩:=hst;show o1.length≤1000000;omega,by obtain ⟨_,_,_,rfl,_,_,hb,_⟩:=hst;exact hb,fun d hd=>(rh.nc d hd).2.2⟩
     have kA:=T3 C s cs2 m nS
     have kB:=T3 C t2 cs2 m n2
     rw [oA,eA] at kA
     rw [oB,eB] at kB
     refine b1T C cells ops k8 ⟨wK,wA,wB,wN,wS,wa1,wa2,wa3⟩ ⟨xK,xA,xB,xN,xS,xa1,xa2,xa3⟩ ⟨yK,yA,yB,yN,yS,ya1,ya2,ya3⟩ c0 c1 s key o m0 k m _ e2 cs cs2 ht0 ht1 hcs hcs2 kst kk ko km kk1 kk2 rfl t2 u _ _ _ _ kD kF1 kE kc2 kTh kT kIs1 kIs2 kA kB (fun hor=>?_) kR0 kF3 kTh3 kR3 uo kSS kc3
     rw [lkE hor]
     exact ⟨rfl,rfl⟩
  ·have kD:=a.c3g C on (by rw [hk1]) hx
   exact a3L C cells ops k8 ⟨wK,wA,wB,wN,wS,wa1,wa2,wa3⟩ ⟨xK,xA,xB,xN,xS,xa1,xa2,xa3⟩ ⟨yK,yA,yB,yN,yS,ya1,ya2,ya3⟩ c0 c1 s key o m0 k m _ e2 cs cs2 ht0 ht1 hcs hcs2 kst kk ko km kk1 kk2 _ 22 kD (by decide) (.inr ⟨rfl,.inl ⟨rfl,b4F hx⟩⟩)
 ·have kD:=a.c0G C on (by rw [hk1];exact he1)
  rw [hk1] at kD
  exact a3L C cells ops k8 ⟨wK,wA,wB,wN,wS,wa1,wa2,wa3⟩ ⟨xK,xA,xB,xN,xS,xa1,xa2,xa3⟩ ⟨yK,yA,yB,yN,yS,ya1,ya2,ya3⟩ c0 c1 s key o m0 k m _ e2 cs cs2 ht0 ht1 hcs hcs2 kst kk ko km kk1 kk2 _ _ kD he1 (.inl ⟨he1,rfl⟩)
end Go.Ab.Td
namespace Go.Ab.Td
set_option maxRecDepth 100000
set_option maxRecDepth 100000
open Go Go.Ab Go.Proofs
theorem laid:Laid Tryd.prog:=⟨by kernel_rfl,by kernel_rfl,by kernel_rfl,by kernel_rfl,by kernel_rfl⟩
end Go.Ab.Td

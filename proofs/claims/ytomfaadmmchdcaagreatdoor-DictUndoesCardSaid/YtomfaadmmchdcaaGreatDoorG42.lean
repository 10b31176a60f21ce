/- A part of the proof: the texts TdZq. Under: nothing. -/
import Derived.Test.YtomfaadmmchdcaaGreatDoorG37
import Derived.Test.YtomfaadmmchdcaaGreatDoorG36
import Derived.Test.YtomfaadmmchdcaaGreatDoorG26
import Derived.Test.YtomfaadmmchdcaaGreatDoorG23
import Derived.Test.YtomfaadmmchdcaaGreatDoorG41
set_option linter.unusedVariables false
namespace Go.Ab.Td
set_option maxRecDepth 100000
set_option maxRecDepth 100000
open Go Go.Ab
variable {P:Program}
set_option linter.unusedSimpArgs false
attribute [local irreducible] e9
set_option linter.unusedVariables false
theorem look_mem_key {c:Cl} {k v:Ob} (hl:look c k=some v):k ∈ c.keys:=by
 unfold look at hl
 split at hl
 ·cases hl
 ·exact (a6Y k c.keys 0).1 (by omega)
theorem look_none_idx {h:List Cl} {c:Cl} {k:Ob} (hr:S7 h c) (h3:c.kind=3) (hl:look c k=none):i3 k 0 c.keys<0∨(c.B2.length:Int)≤i3 k 0 c.keys:=by
 obtain ⟨-, -, -, -, -,a6, -⟩:=b7y hr h3
 by_cases h0:i3 k 0 c.keys<0
 ·exact .inl h0
 ·obtain ⟨i,hi,hil, -⟩:=a8V ((a6Y k c.keys 0).1 (by omega))
  have:=(b3E c k).2 (by omega) (by omega)
  rw [hl] at this
  cases this
theorem ok_law16_DictUndoes (C:Laid P) (cells ops d5:List (List PV)) (hc:∀ r ∈ cells,a1W r) (ho:∀ r ∈ ops,a1W r) (hd:∀ r ∈ d5,∃ D,r=[.int .u8 D]∧0≤D∧D<256) (w0 w1 w2:Wd):l3 P G n_law16_DictUndoes [.agg [.sl 5 cells,.sl 5 ops,.sl 1 d5],.agg (w0.row++(w1.row++w2.row))] [] (.bool true):=by
 obtain ⟨s,⟨ds,hol20,hd6⟩,kst⟩:=c0r C cells ops d5 hc ho hd
 have hs:=ds.dh.sm (by decide)
 clear hc ho hd
 obtain ⟨f0,n0⟩:=b8f ds.dh (by decide) w0
 obtain ⟨f1,n1⟩:=b8f ds.dh (by decide) w1
 obtain ⟨f2,n2⟩:=b8f ds.dh (by decide) w2
 obtain ⟨K0,A0,B0,N0,S0,hA0,hB0,hN0⟩:=w0
 obtain ⟨K1,A1,B1,N1,S1,hA1,hB1,hN1⟩:=w1
 obtain ⟨K2,A2,B2,N2,S2,hA2,hB2,hN2⟩:=w2
 have kO0:=I1 C s.heap hs K0 A0 B0 N0 S0 hA0 hB0 hN0
 have kO1:=I1 C s.heap hs K1 A1 B1 N1 S1 hA1 hB1 hN1
 have kO2:=I1 C s.heap hs K2 A2 B2 N2 S2 hA2 hB2 hN2
 dsimp only at f0 n0 f1 n1 f2 n2
 generalize a6H s.heap K0 A0 B0 N0=o at kO0 f0 n0
 generalize a6H s.heap K1 A1 B1 N1=key at kO1 f1 n1
 generalize a6H s.heap K2 A2 B2 N2=val at kO2 f2 n2
 have d1:=ds.one f0 n0
 by_cases h9:o.kind≠9
 ·exact ok_Und1 C s cells ops d5 kst K0 A0 B0 N0 S0 o kO0 K1 A1 B1 N1 S1 key kO1 K2 A2 B2 N2 S2 val kO2 h9 _ (a6M C s _ _ _ _ (pd_begin_type C d1 (by decide) [] o rfl h9))
 have h9':o.kind=9:=by omega
 clear h9
 have hdl6:s.d5.length<20:=by omega
 have kB:=a6M C s _ _ _ _ (pd_begin C d1 (by decide) [] o rfl h9' hdl6)
 obtain ⟨T,hT⟩:∃ T:B8,T={a8w {s with ops:=[o]} [] s.heap with d5:=s.d5++[o]}:=⟨_,rfl⟩
 have dT:DS 20 T:=by
  rw [hT]
  exact (ds.nil).setDicts (by have:=ds.dl;rw [List.length_append];simp;omega) (fun p hp=>(List.mem_append.1 hp).elim (ds.df p) fun hp=>by simp only [List.mem_singleton] at hp;rw [hp];exact f0) (fun p hp=>(List.mem_append.1 hp).elim (ds.dk p) fun hp=>by simp only [List.mem_singleton] at hp;rw [hp];exact h9')
 have hTd:T.d5=s.d5++[o]:=by rw [hT]
 have kE1:=ok_on0 C T _ _ _ (pd_end C dT.nil (by decide) s.d5 o hTd ds.dl.1)
 have kU:({{T with ops:=[]} with d5:=s.d5}:B8)={s with ops:=[]}:=by rw [hT]
 have kB:l3 P G u0 [aS s,.str [98,101,103,105,110],.sl 7 (List.map i4 [o])] [] (.o0 [aS T,pI 0]):=by rw [hT];exact kB
 clear hT
 rw [kU] at kE1
 clear kU
 obtain ⟨U,hU⟩:∃ U:B8,U={s with ops:=[]}:=⟨_,rfl⟩
 have dU:DS 20 U:=by rw [hU];exact ds.nil
 rw [← hU] at kE1
 have hUh:U.heap=s.heap:=by rw [hU]
 have eU:c5y U= .sl 7 (List.map i4 [])::(c5y s).tail:=by rw [hU];rfl
 clear hU
 have kC:=ok_on0 C T _ _ _ (pd_currentdict C dT.nil (by decide) s.d5 o hTd (by simp))
 have kN:=ok_on0 C T _ _ _ (pd_countdictstack C dT.nil (by decide) (by simp))
 obtain ⟨N,hN⟩:∃ N:Int,N=(s.d5.length:Int)+1:=⟨_,rfl⟩
 have hTn:(({T with ops:=[]}:B8).d5.length:Int)=N:=by show (T.d5.length:Int)=N;rw [hTd,hN];simp
 rw [hTn] at kN
 have kSS2:l3 P G w8 [aS U,.agg (.emp 7::(c5y s).tail)] [] (.bool true):=b4C (dU.same C (by decide)) (.cons (.refl _) (.cons (o6 (by rw [eU];exact .cons (.emp 7) (.refl _))) .nil))
 have dU3:DS 20 {U with ops:=[o,key,val]}:=dU.three (by rw [hUh];exact f0) n0 (by rw [hUh];exact f1) n1 (by rw [hUh];exact f2) n2
 have conv:∀ {op:List UInt8} {l:List Ob} {t:B8} {e:Int},l3 P G u0 [aS U,.str op,.sl 7 (List.map i4 l)] [] (.o0 [aS t,pI e])→l3 P G u0 [.agg (.emp 7::(c5y s).tail),.str op,.sl 7 (List.map i4 l)] [] (.o0 [aS t,pI e]):=fun {op l t e} h=>b4C h (.cons (o6 (by rw [eU];exact .cons (.emp 7) (.refl _))) (.refl _))
 by_cases he:(n4 s.heap key).2≠0
 ·have kP:=a6M C U _ _ _ _ (pd_put_key C dU3 (by decide) [] o key val rfl h9' (by rw [hUh];exact he))
  rcases kKey f1 with e1 | e1 | e1
  ·exact absurd e1 he
  ·exact ok_Und2 C s cells ops d5 kst K0 A0 B0 N0 S0 o kO0 K1 A1 B1 N1 S1 key kO1 K2 A2 B2 N2 S2 val kO2 h9' hd6 T U _ _ N hN kB kE1 kC kN rfl rfl kSS2 _ (conv (by rw [← e1,← hUh];exact kP))
  ·exact ok_Und3 C s cells ops d5 kst K0 A0 B0 N0 S0 o kO0 K1 A1 B1 N1 S1 key kO1 K2 A2 B2 N2 S2 val kO2 h9' hd6 T U _ _ N hN kB kE1 kC kN rfl rfl kSS2 _ (conv (by rw [← e1,← hUh];exact kP))
 have hk:(n4 s.heap key).2=0:=by omega
 clear he
 obtain ⟨g1,g2,g3⟩:=c4A ds.dh f1 n1 hk
 have hk':(n4 U.heap key).2=0:=by rw [hUh];exact hk
 cases hp:Y2 (cellAt s.heap o) (n4 s.heap key).1 val with
 | none=>exact ok_Und4 C s cells ops d5 kst K0 A0 B0 N0 S0 o kO0 K1 A1 B1 N1 S1 key kO1 K2 A2 B2 N2 S2 val kO2 h9' hd6 T U _ _ N hN kB kE1 kC kN rfl rfl kSS2 _ (conv (a6M C U _ _ _ _ (pd_put_full C dU3 (by decide) [] o key val rfl h9' hk' (by show Y2 (cellAt U.heap o) (n4 U.heap key).1 val=none;rw [hUh];exact hp))))
 | some c=>
   obtain ⟨cg,cl⟩:=ds.dh.c5K f0 h9' g1 g2 f2 g3 n2 hp
   have kP:=a6M C U _ _ _ _ (pd_put C dU3 (by decide) [] o key val rfl h9' hk' c (by show Y2 (cellAt U.heap o) (n4 U.heap key).1 val=some c;rw [hUh];exact hp))
   obtain ⟨h2,hh2⟩:∃ h2,h2=s.heap.set o.ref.toNat c:=⟨_,rfl⟩
   rw [← hh2] at cg cl
   obtain ⟨Q1,hQ1⟩:∃ Q1:B8,Q1=a8w {U with ops:=[o,key,val]} [] h2:=⟨_,rfl⟩
   have dQ1:DS 20 Q1:=by rw [hQ1];exact dU.c2L cg.dh (by rw [hUh];exact cg.old) (by simp) (fun o ho=>by cases ho) (fun o ho=>by cases ho)
   have hQh:Q1.heap=h2:=by rw [hQ1]
   have kP:l3 P G u0 [aS U,.str [112,117,116],.sl 7 (List.map i4 [o,key,val])] [] (.o0 [aS Q1,pI 0]):=by rw [hQ1,hh2,← hUh];exact kP
   clear hQ1 hh2
   have hQk:n4 Q1.heap key=n4 s.heap key:=by rw [hQh];exact cg.key key
   have hQk2:(n4 Q1.heap key).2=0:=by rw [hQk];exact hk
   have fo2:fits Q1.heap o:=by rw [hQh];exact a3i cg.old f0
   have fk2:fits Q1.heap key:=by rw [hQh];exact a3i cg.old f1
   have mk:(n4 Q1.heap key).1 ∈ (cellAt Q1.heap o).keys:=by rw [hQk,hQh];exact look_mem_key cl
   obtain ⟨q,r1,r2,r3,r4,r5,r6,r7⟩:=dQ1.dh.rem fo2 h9' mk
   have kR:=a6M C Q1 _ _ _ _ (pd_undef C (dQ1.two fo2 n0 fk2 n1) (by decide) [] o key rfl h9' hQk2 q r1 r2 r3)
   obtain ⟨h3,hh3⟩:∃ h3,h3=Q1.heap.set o.ref.toNat (a6a (cellAt Q1.heap o) q):=⟨_,rfl⟩
   rw [← r7] at r6
   rw [← hh3] at r4 r5 r6
   obtain ⟨Q,hQ⟩:∃ Q:B8,Q=a8w {Q1 with ops:=[o,key]} [] h3:=⟨_,rfl⟩
   have dQ:DS 20 Q:=by rw [hQ];exact dQ1.c2L r4 r5 (by simp) (fun o ho=>by cases ho) (fun o ho=>by cases ho)
   have hQh3:Q.heap=h3:=by rw [hQ]
   have hQo:Q.ops=[]:=by rw [hQ]
   have kR:l3 P G u0 [aS Q1,.str [117,110,100,101,102],.sl 7 (List.map i4 [o,key])] [] (.o0 [aS Q,pI 0]):=by rw [hQ,hh3];exact kR
   have hk3:n4 Q.heap key=n4 Q1.heap key:=by
    obtain ⟨c0,hc0,ec0,hc3, -⟩:=c0a dQ1.dh.v fo2 h9'
    rw [hQh3,hh3];exact c0l hc0 hc3 (by show (cellAt Q1.heap o).kind=3;rw [ec0];exact hc3) key
   clear hQ hh3
   have hk32:(n4 Q.heap key).2=0:=by rw [hk3];exact hQk2
   have fo3:fits Q.heap o:=by rw [hQh3];exact a3i r5 fo2
   have fk3:fits Q.heap key:=by rw [hQh3];exact a3i r5 fk2
   have lk3:look (cellAt Q.heap o) (n4 Q.heap key).1=none:=by rw [hk3,hQh3];exact r6
   obtain ⟨c3,hc3,ec3,hk33,hcr3⟩:=c0a dQ.dh.v fo3 h9'
   have dQ2:=dQ.two fo3 n0 fk3 n1
   have kY:=a6M C Q _ _ _ _ (pd_known_no C dQ2 (by decide) [] o key rfl h9' hk32 lk3)
   have kA:=a6M C Q _ _ _ _ (pd_undef_no C dQ2 (by decide) [] o key rfl h9' hk32 (by show i3 (n4 Q.heap key).1 0 (cellAt Q.heap o).keys<0∨_;rw [ec3] at lk3 ⊢;exact look_none_idx (h:=Q.heap) hcr3 hk33 lk3))
   have eA:(a8w {Q with ops:=[o,key]} [] Q.heap:B8)=Q:=by rw [← hQo]
   rw [eA] at kA
   exact ok_Und5 C s cells ops d5 kst K0 A0 B0 N0 S0 o kO0 K1 A1 B1 N1 S1 key kO1 K2 A2 B2 N2 S2 val kO2 h9' hd6 T U _ _ N hN kB kE1 kC kN rfl rfl kSS2 Q1 Q _ (conv kP) kR kY kA rfl (dQ.same C (by decide)) (kc0 C dQ.dh.v (by have:=dQ.dh.len;omega) dQ.dh.nc)
end Go.Ab.Td

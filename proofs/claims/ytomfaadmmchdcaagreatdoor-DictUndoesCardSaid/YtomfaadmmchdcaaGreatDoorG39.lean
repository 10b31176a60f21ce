/- A part of the proof: the texts TdZp, TdAr3, TdLaid. Under: nothing. -/
import Derived.Test.YtomfaadmmchdcaaGreatDoorG37
import Derived.Test.YtomfaadmmchdcaaGreatDoorG36
import Derived.Test.YtomfaadmmchdcaaGreatDoorG26
import Derived.Test.YtomfaadmmchdcaaGreatDoorG38
import Derived.Test.YtomfaadmmchdcaaGreatDoorG25
import Derived.Test.YtomfaadmmchdcaaGreatDoorG06
import Derived.Test.YtomfaadmmchdcaaGreatDoorChecked
import Derived.KernelRfl
set_option linter.unusedVariables false
namespace Go.Ab.Td
set_option maxRecDepth 100000
set_option maxRecDepth 100000
open Go Go.Ab
variable {P:Program}
set_option linter.unusedSimpArgs false
attribute [local irreducible] e9
set_option linter.unusedVariables false
theorem ok_law16_DictDefines (C:Laid P) (cells ops d5:List (List PV)) (hc:∀ r ∈ cells,a1W r) (ho:∀ r ∈ ops,a1W r) (hd:∀ r ∈ d5,∃ D,r=[.int .u8 D]∧0≤D∧D<256) (w0 w1 w2:Wd):l3 P G n_law16_DictDefines [.agg [.sl 5 cells,.sl 5 ops,.sl 1 d5],.agg (w0.row++(w1.row++w2.row))] [] (.bool true):=by
 obtain ⟨s,⟨ds,hol20,hd6⟩,kst⟩:=c0r C cells ops d5 hc ho hd
 have hs:=ds.dh.sm (by decide)
 clear hc ho hd
 obtain ⟨f0,n0⟩:=b8f ds.dh (by decide) w0
 obtain ⟨f1,n1⟩:=b8f ds.dh (by decide) w1
 obtain ⟨f2,n2⟩:=b8f ds.dh (by decide) w2
 obtain ⟨K0,A0,B0,N0,S0,hA0,hB0,hN0⟩:=w0
 obtain ⟨K1,A1,B1,N1,S1,hA1,hB1,hN1⟩:=w1
 obtain ⟨K2,A2,B2,N2,S2,hA2,hB2,hN2⟩:=w2
 have kO0:=I1 C s.heap hs K0 A0 B0 N0 S0 hA0 hB0 hN0
 have kO1:=I1 C s.heap hs K1 A1 B1 N1 S1 hA1 hB1 hN1
 have kO2:=I1 C s.heap hs K2 A2 B2 N2 S2 hA2 hB2 hN2
 dsimp only at f0 n0 f1 n1 f2 n2
 generalize a6H s.heap K0 A0 B0 N0=key at kO0 f0 n0
 generalize a6H s.heap K1 A1 B1 N1=val at kO1 f1 n1
 generalize a6H s.heap K2 A2 B2 N2=oth at kO2 f2 n2
 have kKk:=b0K C s.heap key n0
 have kKo:=b0K C s.heap oth n2
 have d2:=ds.two f0 n0 f1 n1
 obtain ⟨dl,top,hdt,hdl, -⟩:=ds.top
 have hdm:top ∈ s.d5:=by rw [hdt];simp
 have ft:=ds.df top hdm
 have nt:=ds.dn top hdm
 have h9t:=ds.dk top hdm
 have hr2:(List.map i4 s.d5)[((dl.length:Nat):Int).toNat]?=some (i4 top):=by rw [hdt];simp
 have hdll:s.d5.length=dl.length+1:=by rw [hdt];simp
 have hwT:IntKind.i64.wrap ((s.d5.length:Int) - 1)=(dl.length:Int):=by rw [wrap_small (by omega) (by omega)];omega
 by_cases he:(n4 s.heap key).2≠0
 ·exact ok_Def1 C s cells ops d5 kst K0 A0 B0 N0 S0 key kO0 K1 A1 B1 N1 S1 val kO1 K2 A2 B2 N2 S2 oth kO2 _ _ _ _ kKk kKo he _ (a6M C s _ _ _ _ (pd_def_key C d2 (by decide) [] key val rfl he))
 have hk:(n4 s.heap key).2=0:=by omega
 clear he
 obtain ⟨g1,g2,g3⟩:=c4A ds.dh f0 n0 hk
 cases hp:Y2 (cellAt s.heap top) (n4 s.heap key).1 val with
 | none=>
   have d1:=ds.one ft nt
   have kM:=a6M C s _ _ _ _ (pd_maxlength C d1 (by decide) [] top rfl h9t)
   have kL:=a6M C s _ _ _ _ (pd_length C d1 (by decide) [] top rfl h9t)
   obtain ⟨c0,hc0,ec0,hc3,hcr⟩:=c0a ds.dh.v ft h9t
   have hmx:(cellAt s.heap top).max=((cellAt s.heap top).keys.length:Int):=by rw [ec0] at hp ⊢;exact put_none_max hcr hc3 hp
   dsimp only at kM kL
   rw [hmx] at kM
   exact ok_Def2 C s cells ops d5 kst K0 A0 B0 N0 S0 key kO0 K1 A1 B1 N1 S1 val kO1 K2 A2 B2 N2 S2 oth kO2 _ _ _ _ kKk kKo hk dl top hdt (by omega) _ _ _ _ (a6M C s _ _ _ _ (pd_def_full C d2 (by decide) [] key val rfl hk dl top hdt hp)) kM kL rfl rfl
 | some c=>
   obtain ⟨cg,cl⟩:=ds.dh.c5K ft h9t g1 g2 f1 g3 n1 hp
   have kD:=a6M C s _ _ _ _ (pd_def C d2 (by decide) [] key val rfl hk dl top hdt c hp)
   have tp:a8v (s.heap.set top.ref.toNat c) s.d5 (n4 s.heap key).1 dl.length top val:=by rw [hdt];exact c3x cg cl
   obtain ⟨h2,hh2⟩:∃ h2,h2=s.heap.set top.ref.toNat c:=⟨_,rfl⟩
   rw [← hh2] at cg cl tp kD
   obtain ⟨T,hT⟩:∃ T:B8,T=a8w {s with ops:=[key,val]} [] h2:=⟨_,rfl⟩
   have dT:DS 20 T:=by rw [hT];exact ds.chg cg (by simp) (fun o ho=>by cases ho) (fun o ho=>by cases ho)
   have hTh:T.heap=h2:=by rw [hT]
   have hTd:T.d5=s.d5:=by rw [hT]
   have kD:l3 P G u0 [aS s,.str [100,101,102],.sl 7 (List.map i4 [key,val])] [] (.o0 [aS T,pI 0]):=by rw [hT];exact kD
   clear hT hh2
   have hTk:n4 T.heap key=n4 s.heap key:=by rw [hTh];exact cg.key key
   have hTk2:(n4 T.heap key).2=0:=by rw [hTk];exact hk
   have fK2:fits T.heap key:=by rw [hTh];exact a3i cg.old f0
   have ft2:fits T.heap top:=by rw [hTh];exact a3i cg.old ft
   have tp2:a8v T.heap T.d5 (n4 T.heap key).1 dl.length top val:=by rw [hTk,hTh,hTd];exact tp
   have lk2:look (cellAt T.heap top) (n4 T.heap key).1=some val:=by rw [hTk,hTh];exact cl
   have kL:=a6M C T _ _ _ _ (b7U C (dT.one fK2 n0) (by decide) [] key rfl hTk2 _ _ _ tp2)
   have kG:=a6M C T _ _ _ _ (pd_get C (dT.two ft2 nt fK2 n0) (by decide) [] top key rfl h9t hTk2 val lk2)
   have kW:=a6M C T _ _ _ _ (b2o C (dT.one fK2 n0) (by decide) [] key rfl hTk2 _ _ _ tp2 (by simp))
   have kN:=a6M C T _ _ _ _ (pd_known_yes C (dT.two ft2 nt fK2 n0) (by decide) [] top key rfl h9t hTk2 val lk2)
   have kC:=kc0 C dT.dh.v (by have:=dT.dh.len;omega) dT.dh.nc
   by_cases ho2:(n4 s.heap oth).2≠0
   ·exact ok_Def3 C s cells ops d5 kst K0 A0 B0 N0 S0 key kO0 K1 A1 B1 N1 S1 val kO1 K2 A2 B2 N2 S2 oth kO2 _ _ _ _ kKk kKo hk dl top hdt (by omega) T _ _ _ _ kD kL kG kW kN rfl rfl rfl rfl kC ho2
   have ho0:(n4 s.heap oth).2=0:=by omega
   by_cases hmk:(n4 s.heap oth).1=(n4 s.heap key).1
   ·exact ok_Def4 C s cells ops d5 kst K0 A0 B0 N0 S0 key kO0 K1 A1 B1 N1 S1 val kO1 K2 A2 B2 N2 S2 oth kO2 _ _ _ _ kKk kKo hk dl top hdt (by omega) T _ _ _ _ kD kL kG kW kN rfl rfl rfl rfl kC ho0 hmk
   rcases c2g s.heap (n4 s.heap oth).1 s.d5 with ⟨i,d,v,hto⟩ | hno
   ·have q1:=c0H C s _ hs (by have:=ds.dl;omega) ds.dv ds.dn i d v hto
    have q2:=c0H C T (n4 s.heap oth).1 (dT.dh.sm (by decide)) (by have:=dT.dl;omega) dT.dv dT.dn i d v (by rw [hTh,hTd];exact top_other cg hmk hto)
    exact ok_Def5 C s cells ops d5 kst K0 A0 B0 N0 S0 key kO0 K1 A1 B1 N1 S1 val kO1 K2 A2 B2 N2 S2 oth kO2 _ _ _ _ kKk kKo hk dl top hdt (by omega) T _ _ _ _ kD kL kG kW kN rfl rfl rfl rfl kC ho0 hmk v true q1 q2
   ·have q1:=b5G C s _ hs (by have:=ds.dl;omega) ds.dv ds.dn hno
    have q2:=b5G C T (n4 s.heap oth).1 (dT.dh.sm (by decide)) (by have:=dT.dl;omega) dT.dv dT.dn (by rw [hTh,hTd];exact none_other cg hmk hno)
    exact ok_Def5 C s cells ops d5 kst K0 A0 B0 N0 S0 key kO0 K1 A1 B1 N1 S1 val kO1 K2 A2 B2 N2 S2 oth kO2 _ _ _ _ kKk kKo hk dl top hdt (by omega) T _ _ _ _ kD kL kG kW kN rfl rfl rfl rfl kC ho0 hmk V8 false q1 q2
end Go.Ab.Td
namespace Go.Ab.Td
set_option maxRecDepth 100000
open Go Go.Ab Go.ChangeShapes
end Go.Ab.Td
namespace Go.Ab.Td
set_option maxRecDepth 100000
set_option maxRecDepth 100000
open Go Go.Ab Go.Proofs
theorem laid:Laid Tryz.prog:=⟨by kernel_rfl,by kernel_rfl,by kernel_rfl,by kernel_rfl,by kernel_rfl⟩
end Go.Ab.Td

/- A part of the proof: the texts TdSp2b. Under: nothing. -/
import Derived.Test.YtngmifmcohmfmaaDoorG41
import Derived.Test.YtngmifmcohmfmaaDoorG43a
import Derived.Test.YtngmifmcohmfmaaDoorG42
set_option linter.unusedVariables false
namespace Go.Ab.Td
set_option maxRecDepth 100000
set_option maxRecDepth 100000
open Go Go.Ab
variable {P:Program}
set_option linter.unusedSimpArgs false
attribute [local irreducible] j6
set_option maxHeartbeats 16000000 in
theorem ok_keeps_main_b (C:Laid P) (cells ops k8:List (List PV)) (w0 w1 w2:Wd) (c0 c1:Int) (s:Q0) (key o m0 k m:Ob) (e1 e2:Int) (cs cs2:List UInt8)
 (ht0:0≤c0.tmod 5) (ht1:0≤c1.tmod 5) (hcs:(a1y.map fun c=>[PV.str c])[(c0.tmod 5).toNat]?=some [PV.str cs]) (hcs2:(a1y.map fun c=>[PV.str c])[(c1.tmod 5).toNat]?=some [PV.str cs2])
 (kst:l9 P G B3 [.agg [.sl 5 cells,.sl 5 ops,.sl 1 k8]] [] (aS s))
 (kk:l9 P G i7 [.agg w0.row,.sl 7 (List.map m9 s.heap)] [] (.agg (m6 key))) (ko:l9 P G i7 [.agg w1.row,.sl 7 (List.map m9 s.heap)] [] (.agg (m6 o))) (km:l9 P G i7 [.agg w2.row,.sl 7 (List.map m9 s.heap)] [] (.agg (m6 m0)))
 (kk1:l9 P G A9 [.sl 7 (List.map m9 s.heap),aO key] [] (.s9 [aO k,pI e1])) (kk2:l9 P G A9 [.sl 7 (List.map m9 s.heap),aO m0] [] (.s9 [aO m,pI e2])) (he1:e1=0) (t u:Q0) (od od2:Ob) (oe oe2:Int)
 (kD:l9 P G k7 [aS (S3 s key o cs),.str a3q] [] (.s9 [aS t,pI 0])) (kF1:l9 P G p7 [aS t,.str cs,aO k] [] (.s9 [aO o,pI 0]))
 (kE:l9 P G s7 [.sl 7 (List.map m6 t.ops),.sl 7 (List.map m6 [o])] [] (.bool true)) (kc2:l9 P G A8 [.sl 7 (List.map m9 t.heap)] [] (pI 0))
 (kTh:l9 P G x2 [aS t,.sl 7 (List.map m6 [key,D1 cs])] [] (aS (S2 t key cs))) (kT:l9 P G F4 [.bool true] [] (aO (⟨2,false,1,[],0,0,0⟩:Ob)))
 (kIs1:l9 P G J6 [aS (S2 t key cs),.str [114,101,115,111,117,114,99,101,115,116,97,116,117,115],.sl 7 (List.map m6 [(⟨2,false,1,[],0,0,0⟩:Ob)])] [] (.bool true)) (kIs2:l9 P G J6 [aS (S2 t key cs),.str [102,105,110,100,114,101,115,111,117,114,99,101],.sl 7 (List.map m6 [o])] [] (.bool true))
 (kA:l9 P G p7 [aS s,.str cs2,aO m] [] (.s9 [aO od,pI oe])) (kB:l9 P G p7 [aS t,.str cs2,aO m] [] (.s9 [aO od2,pI oe2])) (hAB:(m≠k∨cs≠cs2)→od=od2∧oe=oe2)
 (kR:l9 P G k7 [aS (S2 t key cs),.str [117,110,100,101,102,105,110,101,114,101,115,111,117,114,99,101]] [] (.s9 [aS u,pI 0])) (kF3:l9 P G p7 [aS u,.str cs,aO k] [] (.s9 [aO L5,pI 40]))
 (kTh3:l9 P G x2 [aS u,.sl 7 (List.map m6 [key,D1 cs])] [] (aS (S2 u key cs))) (kR3:l9 P G k7 [aS (S2 u key cs),.str [117,110,100,101,102,105,110,101,114,101,115,111,117,114,99,101]] [] (.s9 [aS u,pI 0]))
 (uo:u.ops=[]) (kSS:l9 P G B1 [aS u,aS u] [] (.bool true)) (kc3:l9 P G A8 [.sl 7 (List.map m9 u.heap)] [] (pI 0)) (he2:e2=0) (hmk:m≠k):l9 P G C2 [.agg [.sl 5 cells,.sl 5 ops,.sl 1 k8],.agg (w0.row++(w1.row++w2.row)),.int .u8 c0,.int .u8 c1] [] (.bool true):=by
 refine l7 C (a0I C) rfl ?_
 obtain ⟨wK,wA,wB,wN,wS,wa1,wa2,wa3⟩:=w0
 obtain ⟨xK,xA,xB,xN,xS,xa1,xa2,xa3⟩:=w1
 obtain ⟨yK,yA,yB,yN,yS,ya1,ya2,ya3⟩:=w2
 subst he1
 have hul:u.ops.length=0:=by rw [uo];rfl
 clear uo
 subst he2
 obtain ⟨h1,h2⟩:=hAB (.inl hmk)
 subst h1 h2
 clear hAB
 repeat' ((conv=>whnf);first | (with_reducible refine sC (by kernel_rfl) ?_) | ((first | (with_reducible first | refine sB ?_ | refine A2 ?_ | refine A3 ?_) | refine sP (by rfl) ?_);first | refine Or.inl ⟨by first | assumption | (simp only [nm,List.length_map,hul];first | done | assumption | omega),?_⟩ | refine Or.inr (Or.inl ⟨by first | assumption | (simp only [nm,List.length_map,hul];first | done | assumption | omega),?_⟩) | (refine Or.inr (Or.inr ⟨fun hsp=>?_,fun hsp=>?_⟩) <;>(try simp only [nm,List.length_map,hul] at hsp) <;>try subst hsp)) | refine ⟨_,_,TdW18.ok C,?_⟩ | refine ⟨_,_,kst,?_⟩ | refine ⟨_,_,kk,?_⟩ | refine ⟨_,_,ko,?_⟩ | refine ⟨_,_,km,?_⟩ | refine ⟨_,_,kk1,?_⟩ | refine ⟨_,_,kk2,?_⟩ | refine ⟨_,_,E9 C,?_⟩ | refine ⟨_,_,V6 C cs,?_⟩ | refine ⟨_,_,J7 C s [key,o,D1 cs],?_⟩ | refine ⟨_,_,kD,?_⟩ | refine ⟨_,_,kF1,?_⟩ | refine ⟨_,_,kE,?_⟩ | refine ⟨_,_,kc2,?_⟩ | refine ⟨_,_,kIs1,?_⟩ | refine ⟨_,_,kIs2,?_⟩ | refine ⟨_,_,kT,?_⟩ | refine ⟨_,_,kTh,?_⟩ | refine ⟨_,_,kA,?_⟩ | refine ⟨_,_,kB,?_⟩ | refine ⟨_,_,kR,?_⟩ | refine ⟨_,_,kF3,?_⟩ | refine ⟨_,_,kTh3,?_⟩ | refine ⟨_,_,kR3,?_⟩ | refine ⟨_,_,kc3,?_⟩ | refine ⟨_,_,kSS,?_⟩ | refine sS (D7 (by rfl) (by rfl) (by decide)) ?_ | refine sS (a1o (by rfl) (by rfl) ht0 hcs) ?_ | refine sS (a1o (by rfl) (by rfl) ht1 hcs2) ?_ | fail)
 all_goals (conv=>whnf)
 all_goals (first | exact PV.le.refl _ | (exfalso;omega) | (refine le_of_eq ?_;simp;done) | (exfalso;grind))
end Go.Ab.Td

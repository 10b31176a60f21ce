/- A part of the proof: the texts TdCd1, TdTb. Under: nothing. -/
import Derived.Test.YtngmifmcohmfmaaDoorG06
set_option linter.unusedVariables false
namespace Go.Ab.Td
open Go.Ab
def P5:m8:=⟨2,19,[.tmp 4],
 .seq (.b6 [i 4 (.mv (.c (I 0))) 0] false)
 (.seq (.seq (.b6 [i 6 (mv t0) 0,
 i 7 (.i9 t6) 1,
 i 8 (.mv (.c (I 0))) 0] false)
 (.block 0
 (.loop [0,1,7,8]
 (.seq (.b6 [i 9 (.bin .lss t8 t7) 0] false)
 (.seq (.cond t9
 .skip
 (.exit 0))
 (.seq (.block 1
 (.seq (.b6 [i 10 (mv t8) 0,
 i 5 (mv u0) 1] false)
 (.seq (.b6 [i 11 (mv t1) 0,
 i 12 (mv t0) 0,
 i 13 (mv t5) 0,
 i 14 (.j3 7 x5 z9) 6,
 i 15 (.load true 7 C7) 14,
 i 16 (.call u7 [G9]) 31] false)
 (.cond F9
 (.seq (.b6 [i 17 (mv t5) 0,
 i 4 (mv F2) 1] false)
 .ret)
 .skip))))
 (.b6 [i 18 (.bin .add t8 (.c (I 1))) 0,
 i 8 (mv I6) 1] false)))))))
 (.seq (.b6 [i 4 (.mv (.c (I (-1)))) 0] false)
 .ret))⟩
def T3:m8:=⟨2,15,[.cell 4 true 7,.tmp 5],
 .seq (.b6 [i 4 (.alloc z0) 0,
 i 5 (.mv (.c (I 0))) 0] false)
 (.seq (.b6 [i 7 (mv t1) 0,
 i 8 (mv t0) 0,
 i 9 (.call t7 [t8]) 3,
 i 6 (.alloc z0) 0,
 iz (.store 7 t6 t9) 15] false)
 (.seq (.seq (.b6 [i 10 (.load true 7 t6) 0,
 i 11 (.call (.f n8) [u0]) 1,
 i 12 (.bin .neq u7 (.c (I 0))) 3] false)
 (.cond x5
 (.seq (.b6 [i 13 (.build z0 []) 0,
 iz (.store 7 t4 z9) 1,
 i 5 (.mv (.c (I 2))) 3] false)
 .ret)
 .skip))
 (.seq (.b6 [i 14 (.load true 7 t6) 0,
 iz (.store 7 t4 C7) 1,
 i 5 (.mv (.c (I 0))) 3] false)
 .ret)))⟩
def a0N:m8:=⟨1,5,[.cell 2 true 7],
 .seq (.b6 [i 2 (.alloc z0) 0] false)
 (.seq (.b6 [i 3 (mv t0) 0,
 i 4 (.build z0 [(0,1,.c (I 3)),(2,1,t3)]) 1,
 iz (.store 7 t2 t4) 3] false)
 .ret)⟩
end Go.Ab.Td
namespace Go.Ab.Td
open Go.Ab
def d0o:TF:=(.node (.node (.node (.node (.node (.node (.leaf V1 a4f) (.leaf K8 a5V)) (.leaf a1X a8o)) (.node (.leaf a6t a8M) (.leaf A5 b0J))) (.node (.node (.leaf a1e a9x) (.node (.leaf i7 a3B) (.leaf G6 V9))) (.node (.leaf a3d a5W) (.node (.leaf Z0 a4F) (.leaf Q2 a2N))))) (.node (.node (.node (.leaf a1Y a8q) (.leaf p7 a4i)) (.node (.leaf G3 a2U) (.node (.leaf a3g a6d) (.leaf J6 Z9)))) (.node (.node (.leaf B5 a2k) (.leaf e8 a5m)) (.node (.leaf M9 X9) (.leaf a3e a5X))))) (.node (.node (.node (.node (.leaf G1 a2P) (.node (.leaf a4t b1A) (.leaf Z2 a4I))) (.node .nil (.node (.leaf n9 T5) (.leaf o0 y8)))) (.leaf M4 a4J)) (.node (.node (.node (.leaf O9 a4g) (.node (.leaf B1 b2U) (.leaf S0 a4L))) (.node (.node (.leaf a1L a5j) (.leaf H9 a0k)) (.leaf a2c a8u))) (.node (.leaf L0 a2R) (.node (.node (.leaf R9 a4K) (.leaf a3f a5Z)) (.leaf a0v a5Y))))))
def d0p:TF:=(.node (.node (.node (.node (.node (.leaf D2 a0m) (.leaf R4 a2A)) (.node (.leaf s8 H2) (.leaf W8 a5k))) (.node (.node (.leaf R7 a8n) (.leaf L6 a6e)) (.node (.leaf F5 X6) (.leaf w8 a0n)))) (.node (.node (.node (.leaf P0 a7b) (.leaf a1W a4H)) (.leaf Z4 a8p)) (.node (.node (.node (.leaf C9 a3A) (.leaf E2 U4)) (.leaf Z5 a8v)) (.node (.leaf W5 a2Q) (.leaf s7 P3))))) (.node (.node (.node (.node (.node (.leaf Q3 a2O) (.leaf a1d a3z)) (.leaf a3N a8N)) (.node (.leaf A2 P4) (.leaf W9 a5l))) (.node (.node (.node (.leaf B2 U7) (.leaf K9 a0M)) (.leaf u3 a6F)) (.node (.leaf D1 H0) (.leaf k7 S4)))) (.node (.node (.node (.node (.leaf a1V a4D) (.leaf G2 a6a)) (.leaf R8 a1P)) (.node (.leaf a2a a8s) (.leaf L3 a9z))) (.node (.node (.node (.leaf D6 a1R) (.leaf H6 a0j)) (.leaf a0B b1B)) (.node (.leaf r9 a6b) (.leaf u5 W0))))))
def d0q:TF:=(.node (.node (.node (.node (.node (.leaf C2 J1) (.leaf Q4 a2T)) (.node (.node (.leaf l8 P2) (.leaf n8 U5)) (.leaf Z1 a4G))) (.node (.node .nil (.node (.leaf E9 a0x) (.leaf O0 a3y))) (.node (.node (.leaf o8 N3) (.leaf L1 a4h)) (.leaf L5 T6)))) (.node (.node (.leaf s9 P6) (.node (.node (.leaf z8 Y6) (.leaf G5 Y5)) (.leaf D7 M1))) (.node (.node .nil (.node (.leaf q8 E0) (.leaf M3 a1O))) (.node (.node (.leaf y0 N4) (.leaf W6 a1u)) (.leaf C0 I9))))) (.node (.node (.node (.leaf Z3 a1Q) (.node (.node (.leaf y1 a0Q) (.leaf B6 R0)) (.leaf a7Q b0I))) (.node (.leaf L4 a6c) (.node (.node (.leaf E1 K3) (.leaf u4 M0)) (.leaf B9 I8)))) (.node (.node (.node .nil (.node (.leaf F7 X8) (.leaf V2 a0L))) (.node (.leaf O1 V8) (.leaf R3 a0b))) (.node (.node .nil (.node (.leaf w6 N6) (.leaf W4 b0H))) (.node (.node (.leaf F4 M7) (.leaf Y9 a4E)) (.leaf C1 J0))))))
def d0r:TF:=(.node (.node (.node (.node (.node (.node (.leaf H7 a0N) (.leaf F6 X7)) (.leaf z7 C5)) (.node .nil (.node (.leaf a2b a8t) (.leaf v8 I4)))) (.node (.node (.leaf H8 U6) (.leaf y5 J2)) (.node (.leaf x9 C8) (.node (.leaf P1 a4j) (.leaf D3 H3))))) (.node (.node (.leaf E4 K4) (.node (.leaf E3 a0P) (.node (.leaf a1Z a8r) (.leaf Q5 a0l)))) (.node (.node (.leaf u6 F3) (.leaf v7 C4)) (.node (.leaf o9 N5) (.node (.leaf Q6 a2V) (.leaf B3 P5)))))) (.node (.node (.node (.leaf O2 a0O) (.node .nil (.node (.leaf L2 a9y) (.leaf E8 a0R)))) (.node (.node (.leaf q0 D9) (.leaf m7 u9)) (.node (.leaf X0 a1v) (.node (.leaf n4 N7) (.leaf W7 a2S))))) (.node (.node (.node (.leaf C6 S5) (.leaf R2 a0a)) (.leaf D8 a2W)) (.node (.node (.leaf m9 A4) (.leaf B0 T4)) (.node .nil (.node (.leaf J7 a2B) (.leaf E7 T3)))))))
structure Laid (P:Program):Prop where
 mixed:P.follows .mixedOrders=true
 t0:d0o.all (b9 P)=true
 t1:d0p.all (b9 P)=true
 t2:d0q.all (b9 P)=true
 t3:d0r.all (b9 P)=true
variable {P:Program} (C:Laid P)
include C
theorem b0U:b9 P a1L a5j=true:=TF.b8 C.t0 _ _ rfl
theorem b4x:b9 P R9 a4K=true:=TF.b8 C.t0 _ _ rfl
theorem b4w:b9 P a1X a8o=true:=TF.b8 C.t0 _ _ rfl
theorem b7J:b9 P a4t b1A=true:=TF.b8 C.t0 _ _ rfl
theorem T8:b9 P p7 a4i=true:=TF.b8 C.t0 _ _ rfl
theorem H5:b9 P B1 b2U=true:=TF.b8 C.t0 _ _ rfl
theorem k8:b9 P i7 a3B=true:=TF.b8 C.t0 _ _ rfl
theorem a8z:b9 P M4 a4J=true:=TF.b8 C.t0 _ _ rfl
theorem b0Y:b9 P e8 a5m=true:=TF.b8 C.t0 _ _ rfl
theorem a6n:b9 P L0 a2R=true:=TF.b8 C.t0 _ _ rfl
theorem a7N:b9 P A5 b0J=true:=TF.b8 C.t0 _ _ rfl
theorem a1b:b9 P n9 T5=true:=TF.b8 C.t0 _ _ rfl
theorem b6z:b9 P a3g a6d=true:=TF.b8 C.t0 _ _ rfl
theorem b4C:b9 P a2c a8u=true:=TF.b8 C.t0 _ _ rfl
theorem b4r:b9 P Z0 a4F=true:=TF.b8 C.t0 _ _ rfl
theorem a9V:b9 P K8 a5V=true:=TF.b8 C.t0 _ _ rfl
theorem a6m:b9 P G1 a2P=true:=TF.b8 C.t0 _ _ rfl
theorem b4y:b9 P a1Y a8q=true:=TF.b8 C.t0 _ _ rfl
theorem a7p:b9 P O9 a4g=true:=TF.b8 C.t0 _ _ rfl
theorem b6w:b9 P a1e a9x=true:=TF.b8 C.t0 _ _ rfl
theorem a4n:b9 P B5 a2k=true:=TF.b8 C.t0 _ _ rfl
theorem b8R:b9 P a6t a8M=true:=TF.b8 C.t0 _ _ rfl
theorem a6q:b9 P G3 a2U=true:=TF.b8 C.t0 _ _ rfl
theorem a8U:b9 P H9 a0k=true:=TF.b8 C.t0 _ _ rfl
theorem b6r:b9 P a3d a5W=true:=TF.b8 C.t0 _ _ rfl
theorem a8d:b9 P M9 X9=true:=TF.b8 C.t0 _ _ rfl
theorem b6t:b9 P a3f a5Z=true:=TF.b8 C.t0 _ _ rfl
theorem b4u:b9 P Z2 a4I=true:=TF.b8 C.t0 _ _ rfl
theorem b4E:b9 P S0 a4L=true:=TF.b8 C.t0 _ _ rfl
theorem a1H:b9 P G6 V9=true:=TF.b8 C.t0 _ _ rfl
theorem a4p:b9 P o0 y8=true:=TF.b8 C.t0 _ _ rfl
theorem a6I:b9 P J6 Z9=true:=TF.b8 C.t0 _ _ rfl
theorem a9U:b9 P Q2 a2N=true:=TF.b8 C.t0 _ _ rfl
theorem b6s:b9 P a3e a5X=true:=TF.b8 C.t0 _ _ rfl
theorem b3o:b9 P a0v a5Y=true:=TF.b8 C.t0 _ _ rfl
theorem b1K:b9 P V1 a4f=true:=TF.b8 C.t0 _ _ rfl
theorem a9W:b9 P Q3 a2O=true:=TF.b8 C.t1 _ _ rfl
theorem b4p:b9 P a1V a4D=true:=TF.b8 C.t1 _ _ rfl
theorem b4v:b9 P R7 a8n=true:=TF.b8 C.t1 _ _ rfl
theorem a3J:b9 P B2 U7=true:=TF.b8 C.t1 _ _ rfl
theorem a8T:b9 P C9 a3A=true:=TF.b8 C.t1 _ _ rfl
theorem a4O:b9 P D6 a1R=true:=TF.b8 C.t1 _ _ rfl
theorem a0r:b9 P s8 H2=true:=TF.b8 C.t1 _ _ rfl
theorem a3K:b9 P A2 P4=true:=TF.b8 C.t1 _ _ rfl
theorem b4A:b9 P a2a a8s=true:=TF.b8 C.t1 _ _ rfl
theorem a8b:b9 P F5 X6=true:=TF.b8 C.t1 _ _ rfl
theorem a0q:b9 P D1 H0=true:=TF.b8 C.t1 _ _ rfl
theorem a9X:b9 P W5 a2Q=true:=TF.b8 C.t1 _ _ rfl
theorem b6v:b9 P r9 a6b=true:=TF.b8 C.t1 _ _ rfl
theorem b2a:b9 P R4 a2A=true:=TF.b8 C.t1 _ _ rfl
theorem b8S:b9 P a3N a8N=true:=TF.b8 C.t1 _ _ rfl
theorem b4t:b9 P a1W a4H=true:=TF.b8 C.t1 _ _ rfl
theorem a8y:b9 P R8 a1P=true:=TF.b8 C.t1 _ _ rfl
theorem b0b:b9 P L6 a6e=true:=TF.b8 C.t1 _ _ rfl
theorem a6K:b9 P u3 a6F=true:=TF.b8 C.t1 _ _ rfl
theorem b4D:b9 P Z5 a8v=true:=TF.b8 C.t1 _ _ rfl
theorem b7K:b9 P a0B b1B=true:=TF.b8 C.t1 _ _ rfl
theorem b0W:b9 P W8 a5k=true:=TF.b8 C.t1 _ _ rfl
theorem b0X:b9 P W9 a5l=true:=TF.b8 C.t1 _ _ rfl
theorem a8B:b9 P Z4 a8p=true:=TF.b8 C.t1 _ _ rfl
theorem b6y:b9 P L3 a9z=true:=TF.b8 C.t1 _ _ rfl
theorem P9:b9 P w8 a0n=true:=TF.b8 C.t1 _ _ rfl
theorem v5:b9 P k7 S4=true:=TF.b8 C.t1 _ _ rfl
theorem Q0:b9 P s7 P3=true:=TF.b8 C.t1 _ _ rfl
theorem a1I:b9 P u5 W0=true:=TF.b8 C.t1 _ _ rfl
theorem a3I:b9 P D2 a0m=true:=TF.b8 C.t1 _ _ rfl
theorem b3p:b9 P a1d a3z=true:=TF.b8 C.t1 _ _ rfl
theorem b7I:b9 P P0 a7b=true:=TF.b8 C.t1 _ _ rfl
theorem b6u:b9 P G2 a6a=true:=TF.b8 C.t1 _ _ rfl
theorem a4o:b9 P K9 a0M=true:=TF.b8 C.t1 _ _ rfl
theorem a2p:b9 P E2 U4=true:=TF.b8 C.t1 _ _ rfl
theorem a3E:b9 P H6 a0j=true:=TF.b8 C.t1 _ _ rfl
theorem a0X:b9 P n8 U5=true:=TF.b8 C.t2 _ _ rfl
theorem a0e:b9 P B6 R0=true:=TF.b8 C.t2 _ _ rfl
theorem a1U:b9 P G5 Y5=true:=TF.b8 C.t2 _ _ rfl
theorem a9Y:b9 P L1 a4h=true:=TF.b8 C.t2 _ _ rfl
theorem Y8:b9 P u4 M0=true:=TF.b8 C.t2 _ _ rfl
theorem b0V:b9 P W6 a1u=true:=TF.b8 C.t2 _ _ rfl
theorem b4q:b9 P Y9 a4E=true:=TF.b8 C.t2 _ _ rfl
theorem a7o:b9 P V2 a0L=true:=TF.b8 C.t2 _ _ rfl
theorem a7q:b9 P O0 a3y=true:=TF.b8 C.t2 _ _ rfl
theorem a8x:b9 P M3 a1O=true:=TF.b8 C.t2 _ _ rfl
theorem c1B:b9 P W4 b0H=true:=TF.b8 C.t2 _ _ rfl
theorem b4s:b9 P Z1 a4G=true:=TF.b8 C.t2 _ _ rfl
theorem c1C:b9 P a7Q b0I=true:=TF.b8 C.t2 _ _ rfl
theorem a4P:b9 P D7 M1=true:=TF.b8 C.t2 _ _ rfl
theorem a6L:b9 P R3 a0b=true:=TF.b8 C.t2 _ _ rfl
theorem a4q:b9 P L5 T6=true:=TF.b8 C.t2 _ _ rfl
theorem a4a:b9 P B9 I8=true:=TF.b8 C.t2 _ _ rfl
theorem a4b:b9 P C0 I9=true:=TF.b8 C.t2 _ _ rfl
theorem a4c:b9 P C1 J0=true:=TF.b8 C.t2 _ _ rfl
theorem a4d:b9 P C2 J1=true:=TF.b8 C.t2 _ _ rfl
theorem W3:b9 P l8 P2=true:=TF.b8 C.t2 _ _ rfl
theorem a3b:b9 P y1 a0Q=true:=TF.b8 C.t2 _ _ rfl
theorem a4N:b9 P z8 Y6=true:=TF.b8 C.t2 _ _ rfl
theorem a5x:b9 P O1 V8=true:=TF.b8 C.t2 _ _ rfl
theorem a1F:b9 P o8 N3=true:=TF.b8 C.t2 _ _ rfl
theorem a2o:b9 P E1 K3=true:=TF.b8 C.t2 _ _ rfl
theorem a1G:b9 P y0 N4=true:=TF.b8 C.t2 _ _ rfl
theorem a2I:b9 P F4 M7=true:=TF.b8 C.t2 _ _ rfl
theorem a6p:b9 P Q4 a2T=true:=TF.b8 C.t2 _ _ rfl
theorem a8A:b9 P Z3 a1Q=true:=TF.b8 C.t2 _ _ rfl
theorem a0s:b9 P s9 P6=true:=TF.b8 C.t2 _ _ rfl
theorem a8c:b9 P F7 X8=true:=TF.b8 C.t2 _ _ rfl
theorem a5A:b9 P E9 a0x=true:=TF.b8 C.t2 _ _ rfl
theorem a9Z:b9 P L4 a6c=true:=TF.b8 C.t2 _ _ rfl
theorem a2r:b9 P q8 E0=true:=TF.b8 C.t2 _ _ rfl
theorem a5z:b9 P w6 N6=true:=TF.b8 C.t2 _ _ rfl
theorem b4B:b9 P a2b a8t=true:=TF.b8 C.t3 _ _ rfl
theorem b6x:b9 P L2 a9y=true:=TF.b8 C.t3 _ _ rfl
theorem b4z:b9 P a1Z a8r=true:=TF.b8 C.t3 _ _ rfl
theorem a3c:b9 P D8 a2W=true:=TF.b8 C.t3 _ _ rfl
theorem a4r:b9 P P1 a4j=true:=TF.b8 C.t3 _ _ rfl
theorem a0A:b9 P n4 N7=true:=TF.b8 C.t3 _ _ rfl
theorem a6r:b9 P Q6 a2V=true:=TF.b8 C.t3 _ _ rfl
theorem a6M:b9 P J7 a2B=true:=TF.b8 C.t3 _ _ rfl
theorem a2J:b9 P F6 X7=true:=TF.b8 C.t3 _ _ rfl
theorem a1r:b9 P C6 S5=true:=TF.b8 C.t3 _ _ rfl
theorem a0Y:b9 P H8 U6=true:=TF.b8 C.t3 _ _ rfl
theorem K7:b9 P q0 D9=true:=TF.b8 C.t3 _ _ rfl
theorem M8:b9 P u6 F3=true:=TF.b8 C.t3 _ _ rfl
theorem E6:b9 P m9 A4=true:=TF.b8 C.t3 _ _ rfl
theorem a3H:b9 P E3 a0P=true:=TF.b8 C.t3 _ _ rfl
theorem a1E:b9 P x9 C8=true:=TF.b8 C.t3 _ _ rfl
theorem b0Z:b9 P X0 a1v=true:=TF.b8 C.t3 _ _ rfl
theorem a5y:b9 P o9 N5=true:=TF.b8 C.t3 _ _ rfl
theorem S9:b9 P z7 C5=true:=TF.b8 C.t3 _ _ rfl
theorem a3G:b9 P O2 a0O=true:=TF.b8 C.t3 _ _ rfl
theorem a2q:b9 P E4 K4=true:=TF.b8 C.t3 _ _ rfl
theorem a6J:b9 P R2 a0a=true:=TF.b8 C.t3 _ _ rfl
theorem X4:b9 P y5 J2=true:=TF.b8 C.t3 _ _ rfl
theorem S8:b9 P m7 u9=true:=TF.b8 C.t3 _ _ rfl
theorem I5:b9 P v7 C4=true:=TF.b8 C.t3 _ _ rfl
theorem a1a:b9 P B0 T4=true:=TF.b8 C.t3 _ _ rfl
theorem S7:b9 P v8 I4=true:=TF.b8 C.t3 _ _ rfl
theorem b0a:b9 P E8 a0R=true:=TF.b8 C.t3 _ _ rfl
theorem a8V:b9 P Q5 a0l=true:=TF.b8 C.t3 _ _ rfl
theorem a0t:b9 P D3 H3=true:=TF.b8 C.t3 _ _ rfl
theorem a6o:b9 P W7 a2S=true:=TF.b8 C.t3 _ _ rfl
theorem a1c:b9 P B3 P5=true:=TF.b8 C.t3 _ _ rfl
theorem a0Z:b9 P E7 T3=true:=TF.b8 C.t3 _ _ rfl
theorem a3F:b9 P H7 a0N=true:=TF.b8 C.t3 _ _ rfl
end Go.Ab.Td

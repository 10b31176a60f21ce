/- A part of the proof: the texts TdK, TdSu, TdW18. Under: nothing. -/
import Derived.Test.YtomfaadmmchdcaaDoorG23
import Derived.Test.YtomfaadmmchdcaaDoorG20
import Derived.Test.YtomfaadmmchdcaaDoorG07
import Derived.Test.YtomfaadmmchdcaaDoorG05
import Derived.KernelRfl
set_option linter.unusedVariables false
namespace Go.Ab.Td
set_option maxRecDepth 100000
set_option maxRecDepth 100000
open Go Go.Ab
variable {P:Program}
set_option linter.unusedSimpArgs false
set_option linter.unusedVariables false
attribute [local irreducible] g8
set_option maxHeartbeats 1000000 in
theorem s8 (C:Laid P) (s:C3) (k i c d:Ob) (n:Int) (h:List Cl) (out:List Ob) (h0:0≤n) (h1:n≤s.ops.length) (h2:s.ops.length≤100) (h3:out.length≤n):l8 P G o9 [aS s,.agg (a5Q k i c d n),.sl 7 (List.map j6 h),.sl 7 (List.map i4 out)] [] (.p7 [aS {s with ops:=s.ops.take (s.ops.length - n.toNat)++out,heap:=h},pI 0]):=by
 refine j3 C (a0g C) rfl ?_
 repeat' ((conv=>whnf);first | (with_reducible refine sC (by kernel_rfl) ?_) | ((with_reducible refine sB ?_);first | refine oT ?_ | refine oF ?_ | (refine Or.inr (Or.inr ⟨fun hsp=>?_,fun hsp=>?_⟩) <;>(try simp only [nm] at hsp) <;>try subst hsp)) | ((with_reducible refine x4 ?_);first | refine oT ?_ | refine oF ?_ | (refine Or.inr (Or.inr ⟨fun hsp=>?_,fun hsp=>?_⟩) <;>(try simp only [nm] at hsp) <;>try subst hsp)) | ((with_reducible refine x5 ?_);first | refine oT ?_ | refine oF ?_ | (refine Or.inr (Or.inr ⟨fun hsp=>?_,fun hsp=>?_⟩) <;>(try simp only [nm] at hsp) <;>try subst hsp)) | ((refine sP (by rfl) ?_);first | refine oT ?_ | refine oF ?_ | (refine Or.inr (Or.inr ⟨fun hsp=>?_,fun hsp=>?_⟩) <;>(try simp only [nm] at hsp) <;>try subst hsp)) | refine ⟨_,_,b1g C _ _ _ _ _ _ _ _ _ _ _ _ _ _ _ _ _ _ _ _ _ _ _ _ _ _ _ _ _ _ _ _ _ _ _ _ _ _ _ _ _ _ _ _ _ _ _ _ _ _ _ _ _ _ _ _ _ _ _ _ _ _ _ _ _ _ _ _ (by omega) (by omega) (by omega),?_⟩ | refine ⟨_,_,b1h C _ _ _ _ _ _ _ _ _ _ _ _ _ _ _ _ _ _ _ _ _ _ _ _ _ _ _ _ _ _ _ _ _ _ _ _ _ _ _ _ _ _ _ _ _ _ _ _ _ _ _ _ _ _ _ _ _ _ _ _ _ _ _ _ _ _ _ out (by simp only [List.length_take];omega),?_⟩ | fail)
 all_goals (conv=>whnf)
 all_goals (exact PV.le.refl _)
set_option maxHeartbeats 1000000 in
theorem b5k (C:Laid P) (s:C3) (k i c d:Ob) (n:Int) (hx:¬ a0Z c.name i):l8 P G n6 [aS s,.agg (a5Q k i c d n)] [] (.p7 [aS s,pI 22]):=by
 refine j3 C (C6 C) rfl ?_
 repeat' ((conv=>whnf);first | (with_reducible refine sC (by kernel_rfl) ?_) | ((with_reducible refine sB ?_);first | refine oT ?_ | refine oF ?_ | (refine Or.inr (Or.inr ⟨fun hsp=>?_,fun hsp=>?_⟩) <;>(try simp only [nm] at hsp) <;>try subst hsp)) | ((with_reducible refine x4 ?_);first | refine oT ?_ | refine oF ?_ | (refine Or.inr (Or.inr ⟨fun hsp=>?_,fun hsp=>?_⟩) <;>(try simp only [nm] at hsp) <;>try subst hsp)) | ((with_reducible refine x5 ?_);first | refine oT ?_ | refine oF ?_ | (refine Or.inr (Or.inr ⟨fun hsp=>?_,fun hsp=>?_⟩) <;>(try simp only [nm] at hsp) <;>try subst hsp)) | ((refine sP (by rfl) ?_);first | refine oT ?_ | refine oF ?_ | (refine Or.inr (Or.inr ⟨fun hsp=>?_,fun hsp=>?_⟩) <;>(try simp only [nm] at hsp) <;>try subst hsp)) | refine ⟨_,_,a0S C c.name i,?_⟩ | fail)
 all_goals (conv=>whnf)
 all_goals (exact PV.le.refl _)
set_option maxHeartbeats 1000000 in
theorem b2y (C:Laid P) (s:C3) (k i c d:Ob) (n:Int) (hs:nOk s) (hd:d.n<9223372036854775808) (hx:a0Z c.name i) (hv:N2 s.heap d [9]=0) (hp:X7 (cellAt s.heap d) k i=none):l8 P G n6 [aS s,.agg (a5Q k i c d n)] [] (.p7 [aS s,pI 30]):=by
 refine j3 C (C6 C) rfl ?_
 repeat' ((conv=>whnf);first | (with_reducible refine sC (by kernel_rfl) ?_) | ((with_reducible refine sB ?_);first | refine oT ?_ | refine oF ?_ | (refine Or.inr (Or.inr ⟨fun hsp=>?_,fun hsp=>?_⟩) <;>(try simp only [nm] at hsp) <;>try subst hsp)) | ((with_reducible refine x4 ?_);first | refine oT ?_ | refine oF ?_ | (refine Or.inr (Or.inr ⟨fun hsp=>?_,fun hsp=>?_⟩) <;>(try simp only [nm] at hsp) <;>try subst hsp)) | ((with_reducible refine x5 ?_);first | refine oT ?_ | refine oF ?_ | (refine Or.inr (Or.inr ⟨fun hsp=>?_,fun hsp=>?_⟩) <;>(try simp only [nm] at hsp) <;>try subst hsp)) | ((refine sP (by rfl) ?_);first | refine oT ?_ | refine oF ?_ | (refine Or.inr (Or.inr ⟨fun hsp=>?_,fun hsp=>?_⟩) <;>(try simp only [nm] at hsp) <;>try subst hsp)) | refine ⟨_,_,a0S C c.name i,?_⟩ | refine ⟨_,_,a7E C s.heap d hd k i _ hs.1 (by assumption) (by assumption),?_⟩ | refine ⟨_,_,a3p C s.heap d hd k i hs.1 (by assumption) (by assumption),?_⟩ | refine ⟨_,_,a3R C s.heap d hd k i (by assumption),?_⟩ | refine ⟨_,_,s8 C s k i c d n _ [i] (by omega) (by omega) (by omega) (by simp only [List.length_cons,List.length_nil];omega),?_⟩ | fail)
 all_goals (conv=>whnf)
 all_goals (exact PV.le.refl _)
set_option maxHeartbeats 1000000 in
theorem b9H (C:Laid P) (s:C3) (k i c d:Ob) (n:Int) (hs:nOk s) (hd:d.n<9223372036854775808) (t:Cl) (h0:1≤n) (h1:n≤s.ops.length) (h2:s.ops.length≤100) (hx:a0Z c.name i) (hv:N2 s.heap d [9]=0) (hp:X7 (cellAt s.heap d) k i=some t):l8 P G n6 [aS s,.agg (a5Q k i c d n)] [] (.p7 [aS {s with ops:=s.ops.take (s.ops.length - n.toNat)++[i],heap:=s.heap.set d.ref.toNat t},pI 0]):=by
 refine j3 C (C6 C) rfl ?_
 repeat' ((conv=>whnf);first | (with_reducible refine sC (by kernel_rfl) ?_) | ((with_reducible refine sB ?_);first | refine oT ?_ | refine oF ?_ | (refine Or.inr (Or.inr ⟨fun hsp=>?_,fun hsp=>?_⟩) <;>(try simp only [nm] at hsp) <;>try subst hsp)) | ((with_reducible refine x4 ?_);first | refine oT ?_ | refine oF ?_ | (refine Or.inr (Or.inr ⟨fun hsp=>?_,fun hsp=>?_⟩) <;>(try simp only [nm] at hsp) <;>try subst hsp)) | ((with_reducible refine x5 ?_);first | refine oT ?_ | refine oF ?_ | (refine Or.inr (Or.inr ⟨fun hsp=>?_,fun hsp=>?_⟩) <;>(try simp only [nm] at hsp) <;>try subst hsp)) | ((refine sP (by rfl) ?_);first | refine oT ?_ | refine oF ?_ | (refine Or.inr (Or.inr ⟨fun hsp=>?_,fun hsp=>?_⟩) <;>(try simp only [nm] at hsp) <;>try subst hsp)) | refine ⟨_,_,a0S C c.name i,?_⟩ | refine ⟨_,_,a7E C s.heap d hd k i _ hs.1 (by assumption) (by assumption),?_⟩ | refine ⟨_,_,a3p C s.heap d hd k i hs.1 (by assumption) (by assumption),?_⟩ | refine ⟨_,_,a3R C s.heap d hd k i (by assumption),?_⟩ | refine ⟨_,_,s8 C s k i c d n _ [i] (by omega) (by omega) (by omega) (by simp only [List.length_cons,List.length_nil];omega),?_⟩ | fail)
 all_goals (conv=>whnf)
 all_goals (exact PV.le.refl _)
set_option maxHeartbeats 1000000 in
theorem b6A (C:Laid P) (s:C3) (g:Nat) (hs:nOk s) (ha:W5 s 2≠0):l8 P G m9 [.ref [.func (.func g9) [aS s] []],.ref [pI 2],.ref (a9P s),.ref [.func (.func g) [aS s] []]] [] (.p7 [aS s,pI (W5 s 2)]):=by
 refine j3 C (E2 C) rfl ?_
 repeat' ((conv=>whnf);first | (with_reducible refine sC (by kernel_rfl) ?_) | ((with_reducible refine sB ?_);first | refine oT ?_ | refine oF ?_ | (refine Or.inr (Or.inr ⟨fun hsp=>?_,fun hsp=>?_⟩) <;>(try simp only [nm] at hsp) <;>try subst hsp)) | ((with_reducible refine x4 ?_);first | refine oT ?_ | refine oF ?_ | (refine Or.inr (Or.inr ⟨fun hsp=>?_,fun hsp=>?_⟩) <;>(try simp only [nm] at hsp) <;>try subst hsp)) | ((with_reducible refine x5 ?_);first | refine oT ?_ | refine oF ?_ | (refine Or.inr (Or.inr ⟨fun hsp=>?_,fun hsp=>?_⟩) <;>(try simp only [nm] at hsp) <;>try subst hsp)) | ((refine sP (by rfl) ?_);first | refine oT ?_ | refine oF ?_ | (refine Or.inr (Or.inr ⟨fun hsp=>?_,fun hsp=>?_⟩) <;>(try simp only [nm] at hsp) <;>try subst hsp)) | refine ⟨_,_,b3t C s hs ha,?_⟩ | fail)
 all_goals (conv=>whnf)
 all_goals (exact PV.le.refl _)
set_option maxHeartbeats 1000000 in
theorem c3f (C:Laid P) (s t:C3) (g:Nat) (e:Int) (hs:nOk s) (ha:W5 s 2=0) (hg:l8 P G g [aS s,.agg (a5Q (i3 s.heap (opA s 2 0)).1 (opA s 2 1) (i3 s.heap (opA s 2 (2 - 1))).1 (a7V s.heap (i3 s.heap (opA s 2 (2 - 1))).1) 2)] [] (.p7 [aS t,pI e])):l8 P G m9 [.ref [.func (.func g9) [aS s] []],.ref [pI 2],.ref (a9P s),.ref [.func (.func g) [aS s] []]] [] (.p7 [aS t,pI e]):=by
 refine j3 C (E2 C) rfl ?_
 repeat' ((conv=>whnf);first | (with_reducible refine sC (by kernel_rfl) ?_) | ((with_reducible refine sB ?_);first | refine oT ?_ | refine oF ?_ | (refine Or.inr (Or.inr ⟨fun hsp=>?_,fun hsp=>?_⟩) <;>(try simp only [nm] at hsp) <;>try subst hsp)) | ((with_reducible refine x4 ?_);first | refine oT ?_ | refine oF ?_ | (refine Or.inr (Or.inr ⟨fun hsp=>?_,fun hsp=>?_⟩) <;>(try simp only [nm] at hsp) <;>try subst hsp)) | ((with_reducible refine x5 ?_);first | refine oT ?_ | refine oF ?_ | (refine Or.inr (Or.inr ⟨fun hsp=>?_,fun hsp=>?_⟩) <;>(try simp only [nm] at hsp) <;>try subst hsp)) | ((refine sP (by rfl) ?_);first | refine oT ?_ | refine oF ?_ | (refine Or.inr (Or.inr ⟨fun hsp=>?_,fun hsp=>?_⟩) <;>(try simp only [nm] at hsp) <;>try subst hsp)) | refine ⟨_,_,b9F C s hs ha,?_⟩ | refine ⟨_,_,hg,?_⟩ | fail)
 all_goals (conv=>whnf)
 all_goals (exact PV.le.refl _)
set_option maxHeartbeats 1000000 in
theorem b6B (C:Laid P) (s:C3) (g:Nat) (hs:nOk s) (ha:W5 s 3≠0):l8 P G m9 [.ref [.func (.func g9) [aS s] []],.ref [pI 3],.ref (a9P s),.ref [.func (.func g) [aS s] []]] [] (.p7 [aS s,pI (W5 s 3)]):=by
 refine j3 C (E2 C) rfl ?_
 repeat' ((conv=>whnf);first | (with_reducible refine sC (by kernel_rfl) ?_) | ((with_reducible refine sB ?_);first | refine oT ?_ | refine oF ?_ | (refine Or.inr (Or.inr ⟨fun hsp=>?_,fun hsp=>?_⟩) <;>(try simp only [nm] at hsp) <;>try subst hsp)) | ((with_reducible refine x4 ?_);first | refine oT ?_ | refine oF ?_ | (refine Or.inr (Or.inr ⟨fun hsp=>?_,fun hsp=>?_⟩) <;>(try simp only [nm] at hsp) <;>try subst hsp)) | ((with_reducible refine x5 ?_);first | refine oT ?_ | refine oF ?_ | (refine Or.inr (Or.inr ⟨fun hsp=>?_,fun hsp=>?_⟩) <;>(try simp only [nm] at hsp) <;>try subst hsp)) | ((refine sP (by rfl) ?_);first | refine oT ?_ | refine oF ?_ | (refine Or.inr (Or.inr ⟨fun hsp=>?_,fun hsp=>?_⟩) <;>(try simp only [nm] at hsp) <;>try subst hsp)) | refine ⟨_,_,b3u C s hs ha,?_⟩ | fail)
 all_goals (conv=>whnf)
 all_goals (exact PV.le.refl _)
set_option maxHeartbeats 1000000 in
theorem c3g (C:Laid P) (s t:C3) (g:Nat) (e:Int) (hs:nOk s) (ha:W5 s 3=0) (hg:l8 P G g [aS s,.agg (a5Q (i3 s.heap (opA s 3 0)).1 (opA s 3 1) (i3 s.heap (opA s 3 (3 - 1))).1 (a7V s.heap (i3 s.heap (opA s 3 (3 - 1))).1) 3)] [] (.p7 [aS t,pI e])):l8 P G m9 [.ref [.func (.func g9) [aS s] []],.ref [pI 3],.ref (a9P s),.ref [.func (.func g) [aS s] []]] [] (.p7 [aS t,pI e]):=by
 refine j3 C (E2 C) rfl ?_
 repeat' ((conv=>whnf);first | (with_reducible refine sC (by kernel_rfl) ?_) | ((with_reducible refine sB ?_);first | refine oT ?_ | refine oF ?_ | (refine Or.inr (Or.inr ⟨fun hsp=>?_,fun hsp=>?_⟩) <;>(try simp only [nm] at hsp) <;>try subst hsp)) | ((with_reducible refine x4 ?_);first | refine oT ?_ | refine oF ?_ | (refine Or.inr (Or.inr ⟨fun hsp=>?_,fun hsp=>?_⟩) <;>(try simp only [nm] at hsp) <;>try subst hsp)) | ((with_reducible refine x5 ?_);first | refine oT ?_ | refine oF ?_ | (refine Or.inr (Or.inr ⟨fun hsp=>?_,fun hsp=>?_⟩) <;>(try simp only [nm] at hsp) <;>try subst hsp)) | ((refine sP (by rfl) ?_);first | refine oT ?_ | refine oF ?_ | (refine Or.inr (Or.inr ⟨fun hsp=>?_,fun hsp=>?_⟩) <;>(try simp only [nm] at hsp) <;>try subst hsp)) | refine ⟨_,_,b9G C s hs ha,?_⟩ | refine ⟨_,_,hg,?_⟩ | fail)
 all_goals (conv=>whnf)
 all_goals (exact PV.le.refl _)
end Go.Ab.Td
namespace Go.Ab.Td
set_option maxRecDepth 100000
set_option maxRecDepth 100000
open Go Go.Ab
variable {P:Program}
theorem c2X {h:List Cl} (t:a1P h):h[4]?=some a7R∧(∀ j:Nat,5≤j→j≤9→h[j]?=some (dct [] [] 10))∧10≤h.length:=by
 obtain ⟨more,rfl,hm,hall⟩:=t
 refine ⟨rfl,fun j h1 h2=>?_,by simp [a1v]⟩
 have:j=5∨j=6∨j=7∨j=8∨j=9:=by omega
 rcases this with rfl | rfl | rfl | rfl | rfl <;>rfl
theorem b2O (j:Int) (h0:0≤j) (h1:j≤20000):(dO j).right:=by
 unfold Ob.right Ob.blank dO;simp;omega
theorem a2U {h:List Cl} {j:Int} {c:Cl} (h0:0≤j) (h1:j≤20000) (hc:h[j.toNat]?=some c) (hk:c.kind=3):N2 h (dO j) [9]=0∧cellAt h (dO j)=c:=by
 have hca:cellAt h (dO j)=c:=by show (h[j.toNat]?).getD cl0=c;rw [hc];rfl
 have hf:fits h (dO j):=(b1Y (b2O j h0 h1)).2 (.inr ⟨by have:=(List.getElem?_eq_some_iff.1 hc).1;show j<_;omega,by rw [hca,hk];rfl,.inl rfl⟩)
 refine ⟨?_,hca⟩
 unfold N2
 rw [if_neg (Classical.not_not.2 hf),if_pos (by simp [dO])]
theorem c1f {h:List Cl} {s:List UInt8} (hs:s.length≤100):i3 h (W4 s)=(W4 s,0):=by
 have hr:(W4 s).right:=(G7 s false).2 hs
 have hf:fits h (W4 s):=⟨hr,fun hk=>absurd rfl hk⟩
 unfold i3
 rw [if_neg (Classical.not_not.2 hf),if_neg (by simp [W4]),if_neg (by simp [W4])]
 simp [Ob.key,W4]
section
variable {s:C3} (hs:c0H s) {cs:List UInt8} (hc:cs ∈ b0S) (o:Ob) (ho:o.n<9223372036854775808)
end
end Go.Ab.Td
namespace Go.Ab.Td.TdW18
set_option maxRecDepth 100000
set_option maxRecDepth 100000
open Go Go.Ab Go.Ab.Td
variable {P:Program}
set_option linter.unusedSimpArgs false
def a2o:TF:=(.node (.node (.node (.node (.node (.node (.node (.leaf y9 a0D) (.leaf n6 H8)) (.leaf u5 a0w)) (.node (.node (.leaf p9 a4i) (.leaf x9 a1E)) .nil)) (.node (.node (.leaf V0 a2B) (.leaf u7 L6)) (.node (.node (.leaf J3 a2y) (.leaf C1 K9)) (.node (.leaf a1J a4f) (.leaf M4 a0A))))) (.node (.node (.node (.node (.leaf C2 L1) (.leaf y1 a1o)) .nil) (.node (.leaf w6 U2) (.node (.leaf P2 a2i) (.leaf F0 Y0)))) (.node (.node (.leaf G3 a0x) (.leaf o9 L5)) (.node (.leaf S7 a5c) (.node (.leaf A8 N9) (.leaf B7 R1)))))) (.node (.node (.node (.node (.node (.leaf V2 a5j) (.leaf q9 I1)) (.leaf D7 a0z)) (.node (.leaf M5 a1n) (.node (.leaf r9 a5g) (.leaf M3 a0y)))) (.node (.leaf a0j a6i) (.node .nil (.node (.leaf a6W a9K) (.leaf y5 L0))))) (.node (.node (.node (.leaf P9 a4h) (.leaf C4 a3F)) (.node (.leaf P8 a1G) (.node (.leaf a3o a7P) (.leaf s0 a0C)))) (.node (.node (.leaf P7 a4g) (.leaf E9 X9)) (.node (.leaf D4 a2z) (.leaf I7 Y1)))))) (.node (.node (.node (.node (.node (.node (.leaf D1 Z2) (.leaf q8 H9)) (.leaf K4 a1D)) (.node (.node (.leaf x2 a0B) (.leaf u4 U1)) (.node (.leaf K5 a1F) (.leaf A0 H2)))) (.node (.leaf z9 G9) (.node .nil (.node (.leaf X0 a4e) (.leaf x6 J0))))) (.node (.node (.node (.node (.leaf s7 O0) (.leaf V1 a5h)) .nil) (.node (.leaf O7 a2C) (.leaf G5 Z3))) (.node (.leaf P6 a4b) (.node (.node (.leaf J4 a3E) (.leaf B3 W6)) (.node (.leaf g9 K2) (.leaf w9 H0)))))) (.node (.node (.node (.node (.node (.leaf V3 a5k) (.leaf r6 I2)) .nil) (.node .nil (.node (.leaf U7 a9J) (.leaf B0 J1)))) (.node (.node (.leaf E3 R0) (.leaf M6 a1p)) (.leaf u6 E0))) (.node (.node (.node (.leaf D2 O2) (.leaf o8 D6)) (.node (.leaf v8 O1) (.node (.leaf U8 a2A) (.leaf A5 a2D)))) (.leaf m9 R2)))))
def a1b:TF:=.nil
def b8d:TF:=(.node (.node .nil (.node .nil (.node (.leaf s0 a0C) (.leaf I7 Y1)))) (.node (.node (.leaf K5 a1F) (.leaf B3 W6)) (.node .nil (.node (.leaf U8 a2A) (.leaf m9 R2)))))
def b5E:TF:=.nil
def ext (_:Nat):Option a2f:=none
theorem c4W (C:Laid P):a2o.all (f0 P)=true:=by simp only [a2o,TF.all,b3l C,P5 C,a3M C,a4J C,a5t C,a7Y C,a3L C,a0K C,a6s C,a2k C,a7z C,a9b C,b9z C,b0W C,a8b C,b7v C,a9c C,b3k C,b3j C,b9A C,Z9 C,A1 C,a2m C,E2 C,C6 C,I4 C,I5 C,I6 C,a4K C,a9d C,a7A C,a1I C,a1w C,a1x C,a5v C,a4n C,a0b C,W1 C,a4o C,a3g C,a4m C,a3j C,N4 C,a0h C,a6y C,a4L C,a0g C,a4l C,Q7 C,a3i C,S6 C,a2l C,a2I C,a5w C,a3k C,S5 C,W2 C,L9 C,a0M C,Q6 C,a3N C,a3l C,a9g C,a9h C,a2u C,a0a C,a0c C,a5u C,Q5 C,a0L C,a3h C,Bool.and_self]
theorem c2M (_C:Laid P):a1b.all (f0 P)=true:=by simp only [a1b,TF.all,Bool.and_self]
theorem c4X (C:Laid P):b8d.all (f0 P)=true:=by simp only [b8d,TF.all,a2m C,E2 C,a2I C,a4o C,a7z C,a9c C,Bool.and_self]
theorem c2N (_C:Laid P):b5E.all (a0F P)=true:=by simp only [b5E,TF.all,Bool.and_self]
theorem b8s:a3C P G fun g=>(ext g).map a5R:=by
 intro g h hg
 cases hg
theorem b1E:∀ g ps own r,kn0 g ps=some (own,r)→l8 P G g ps own r:=fun _ _ _ _ h=>by cases h
theorem run:isR [] (.bool true) ((a5l G kn0 ext b8d.fn b5E.fn a2o.fn a1b.fn 10000 20).call P7 [])=true:=by kernel_rfl
theorem ok (C:Laid P):l8 P G P7 [] [] (.bool true):=b0e C.mixed b1E b8s (TF.e8 (c4X C)) (TF.e8 (c2N C)) (TF.e8 (c4W C)) (TF.e8 (c2M C)) (b7t run)
end Go.Ab.Td.TdW18

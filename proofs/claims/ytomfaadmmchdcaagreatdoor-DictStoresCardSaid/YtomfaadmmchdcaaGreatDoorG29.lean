/- A part of the proof: the texts TdFi, AbIx, AbSl, TdZe, TdW16, AbOe, AbOa, TdW19, TdSf, TdUa, TdRv0. Under: nothing. -/
import Derived.Test.YtomfaadmmchdcaaGreatDoorG17
import Derived.Test.YtomfaadmmchdcaaGreatDoorG19
import Derived.Test.YtomfaadmmchdcaaGreatDoorG28
import Derived.Test.YtomfaadmmchdcaaGreatDoorG05
import Derived.Test.YtomfaadmmchdcaaGreatDoorG07
import Derived.KernelRfl
import Derived.Test.YtomfaadmmchdcaaGreatDoorG04
import Derived.Test.YtomfaadmmchdcaaGreatDoorG14
import Derived.Test.YtomfaadmmchdcaaGreatDoorG18
import Derived.Test.YtomfaadmmchdcaaGreatDoorG13
import Derived.Test.YtomfaadmmchdcaaGreatDoorG21
set_option linter.unusedVariables false
namespace Go.Ab.Td
set_option maxRecDepth 100000
open Go Go.Ab
variable {P:Program}
set_option linter.unusedSimpArgs false
attribute [local irreducible] e9
def st3 (s:B8) (k o:Ob) (c:List UInt8):B8:={s with ops:=[k,o,nmO c]}
def a8f:List (List UInt8):=[[100,101,102,105,110,101,114,101,115,111,117,114,99,101],[102,105,110,100,114,101,115,111,117,114,99,101],[117,110,100,101,102,105,110,101,114,101,115,111,117,114,99,101],[114,101,115,111,117,114,99,101,115,116,97,116,117,115]]
noncomputable def rfO (h:List Cl) (c:List UInt8) (k:Ob):Ob:=if b5h h (nmO c)=0 then c5E h (c2y h (nmO c)) k else V8
noncomputable def rfE (h:List Cl) (c:List UInt8) (k:Ob):Int:=if b5h h (nmO c)=0 then c5D h (c2y h (nmO c)) k else b5h h (nmO c)
end Go.Ab.Td
namespace Go.Ab
set_option linter.unusedSimpArgs false
section
variable {σ:b7} {nm:Nat} {ev:RA→AV}
end
end Go.Ab
namespace Go.Ab
section
variable {σ:b7} {nm es:Nat} {ev:RA→AV}
end
end Go.Ab
namespace Go.Ab
section
variable {σ:b7} {nm es:Nat} {ev:RA→AV}
end
end Go.Ab
namespace Go.Ab.Td
set_option maxRecDepth 100000
set_option maxRecDepth 100000
open Go Go.Ab
variable {P:Program}
set_option linter.unusedSimpArgs false
attribute [local irreducible] e9
theorem b9Z {h:List Cl} {d:Ob} (hv:U0 h d [9]=0):0≤d.ref∧d.ref<h.length:=by
 obtain ⟨⟨a, -⟩, -,hk,hc⟩:=a3x hv
 simp only [List.mem_singleton] at hk
 rcases hc with hc | hc
 ·rw [hk] at hc;exact absurd hc (by decide)
 ·exact ⟨a,hc.1⟩
set_option maxHeartbeats 4000000 in
theorem c0G (C:Laid P) (s:B8) (k:Ob) (hs:small s.heap) (hl:s.d5.length≤1000) (h9:∀ d ∈ s.d5,U0 s.heap d [9]=0) (i:Nat) (d v:Ob) (ht:a8v s.heap s.d5 k i d v):l3 P G Y0 [aS s,aO k] [] (pI (i:Int)):=by
 refine k8 C (a7E C) rfl ?_
 obtain ⟨hd,hv,hj⟩:=ht
 have hil:=(List.getElem?_eq_some_iff.1 hd).1
 repeat' ((conv=>whnf);first | (with_reducible refine sC (by kernel_rfl) ?_) | ((first | (with_reducible first | refine sB ?_ | refine z7 ?_ | refine z8 ?_) | refine sP (by rfl) ?_);first | refine oT ?_ | refine oF ?_ | (refine Or.inr (Or.inr ⟨fun hsp=>?_,fun hsp=>?_⟩) <;>(try simp only [nm,List.length_map] at hsp) <;>try subst hsp)) | fail)
 all_goals (conv=>whnf)
 intro X hX hW
 refine a3T hX (fun st (a:Nat × Int)=>st.upd [(6,.pv (pI (a.1:Int))),(5,.pv (pI a.2))] []) (fun a k=>a.1+k=s.d5.length∧(i<a.1→a.2=(i:Int))) (0, -1) s.d5.length (by (conv=>whnf);first | done | rfl) ⟨by simp,fun h=>by omega⟩ ?_
 intro m a ih hI
 obtain ⟨p,at1⟩:=a
 obtain ⟨hI1,hI2⟩:=hI
 dsimp only at hI1 hI2
 have w1:IntKind.i64.wrap ((p:Int)+1)=((p+1:Nat):Int):=by rw [wrap_small (by omega) (by omega)];omega
 rcases a3I s.d5 p with ⟨x,hlt,hx⟩ | hge
 ·have hrow:=K4 (f:=i4) hx
  have hm:=List.mem_of_getElem? hx
  obtain ⟨r0,r1⟩:=b9Z (h9 x hm)
  have kF:=a4D C s.heap x k r0 r1 hs
  cases hv2:look (cellAt s.heap x) k with
  | some v2=>
    have hpi:p≤i:=by
     by_cases e:i<p
     ·rw [hj p x e hx] at hv2;cases hv2
     ·omega
    rw [hv2] at kF
    repeat' ((conv=>whnf);first | (with_reducible refine sC (by kernel_rfl) ?_) | ((first | (with_reducible first | refine sB ?_ | refine z7 ?_ | refine z8 ?_) | refine sP (by rfl) ?_);first | refine oT ?_ | refine oF ?_ | (refine Or.inr (Or.inr ⟨fun hsp=>?_,fun hsp=>?_⟩) <;>(try simp only [nm,List.length_map] at hsp) <;>try subst hsp)) | refine ⟨_,_,kF,?_⟩ | refine sS (e7 (by rfl) (by rfl) (by omega) hrow) ?_ | fail)
    all_goals (conv=>whnf)
    all_goals (refine ih (m - 1) (p+1,(p:Int)) _ (by omega) ⟨by (try dsimp only);omega,fun h=>by (try dsimp only);omega⟩ (by (conv=>whnf);first | done | rfl | (rw [w1];first | done | rfl)))
  | none=>
    have hpi:p≠i:=fun e=>by subst e;rw [hd] at hx;cases hx;rw [hv] at hv2;cases hv2
    rw [hv2] at kF
    repeat' ((conv=>whnf);first | (with_reducible refine sC (by kernel_rfl) ?_) | ((first | (with_reducible first | refine sB ?_ | refine z7 ?_ | refine z8 ?_) | refine sP (by rfl) ?_);first | refine oT ?_ | refine oF ?_ | (refine Or.inr (Or.inr ⟨fun hsp=>?_,fun hsp=>?_⟩) <;>(try simp only [nm,List.length_map] at hsp) <;>try subst hsp)) | refine ⟨_,_,kF,?_⟩ | refine sS (e7 (by rfl) (by rfl) (by omega) hrow) ?_ | fail)
    all_goals (conv=>whnf)
    all_goals (refine ih (m - 1) (p+1,at1) _ (by omega) ⟨by (try dsimp only);omega,fun h=>hI2 (by (try dsimp only at h);omega)⟩ (by (conv=>whnf);first | done | rfl | (rw [w1];first | done | rfl)))
 ·repeat' ((conv=>whnf);first | (with_reducible refine sC (by kernel_rfl) ?_) | ((first | (with_reducible first | refine sB ?_ | refine z7 ?_ | refine z8 ?_) | refine sP (by rfl) ?_);first | refine oT ?_ | refine oF ?_ | (refine Or.inr (Or.inr ⟨fun hsp=>?_,fun hsp=>?_⟩) <;>(try simp only [nm,List.length_map] at hsp) <;>try subst hsp)) | fail)
  all_goals (conv=>whnf)
  all_goals (refine l0 ?_;first | exact hI2 | exact hI2 (by omega))
set_option maxHeartbeats 4000000 in
theorem b5F (C:Laid P) (s:B8) (k:Ob) (hs:small s.heap) (hl:s.d5.length≤1000) (h9:∀ d ∈ s.d5,U0 s.heap d [9]=0) (hno:b0J s.heap s.d5 k):l3 P G Y0 [aS s,aO k] [] (pI (-1)):=by
 refine k8 C (a7E C) rfl ?_
 repeat' ((conv=>whnf);first | (with_reducible refine sC (by kernel_rfl) ?_) | ((first | (with_reducible first | refine sB ?_ | refine z7 ?_ | refine z8 ?_) | refine sP (by rfl) ?_);first | refine oT ?_ | refine oF ?_ | (refine Or.inr (Or.inr ⟨fun hsp=>?_,fun hsp=>?_⟩) <;>(try simp only [nm,List.length_map] at hsp) <;>try subst hsp)) | fail)
 all_goals (conv=>whnf)
 intro X hX hW
 refine a3T hX (fun st (a:Nat × Int)=>st.upd [(6,.pv (pI (a.1:Int))),(5,.pv (pI a.2))] []) (fun a k=>a.1+k=s.d5.length∧a.2= -1) (0, -1) s.d5.length (by (conv=>whnf);first | done | rfl) ⟨by simp,rfl⟩ ?_
 intro m a ih hI
 obtain ⟨p,at1⟩:=a
 obtain ⟨hI1,hI2⟩:=hI
 dsimp only at hI1 hI2
 have w1:IntKind.i64.wrap ((p:Int)+1)=((p+1:Nat):Int):=by rw [wrap_small (by omega) (by omega)];omega
 rcases a3I s.d5 p with ⟨x,hlt,hx⟩ | hge
 ·have hrow:=K4 (f:=i4) hx
  have hm:=List.mem_of_getElem? hx
  obtain ⟨r0,r1⟩:=b9Z (h9 x hm)
  have kF:=a4D C s.heap x k r0 r1 hs
  rw [hno x hm] at kF
  repeat' ((conv=>whnf);first | (with_reducible refine sC (by kernel_rfl) ?_) | ((first | (with_reducible first | refine sB ?_ | refine z7 ?_ | refine z8 ?_) | refine sP (by rfl) ?_);first | refine oT ?_ | refine oF ?_ | (refine Or.inr (Or.inr ⟨fun hsp=>?_,fun hsp=>?_⟩) <;>(try simp only [nm,List.length_map] at hsp) <;>try subst hsp)) | refine ⟨_,_,kF,?_⟩ | refine sS (e7 (by rfl) (by rfl) (by omega) hrow) ?_ | fail)
  all_goals (conv=>whnf)
  all_goals (refine ih (m - 1) (p+1,at1) _ (by omega) ⟨by (try dsimp only);omega,hI2⟩ (by (conv=>whnf);first | done | rfl | (rw [w1];first | done | rfl)))
 ·repeat' ((conv=>whnf);first | (with_reducible refine sC (by kernel_rfl) ?_) | ((first | (with_reducible first | refine sB ?_ | refine z7 ?_ | refine z8 ?_) | refine sP (by rfl) ?_);first | refine oT ?_ | refine oF ?_ | (refine Or.inr (Or.inr ⟨fun hsp=>?_,fun hsp=>?_⟩) <;>(try simp only [nm,List.length_map] at hsp) <;>try subst hsp)) | fail)
  all_goals (conv=>whnf)
  all_goals (refine l0 ?_;first | exact hI2 | exact hI2 (by omega))
set_option maxHeartbeats 4000000 in
theorem c0I (C:Laid P) (s:B8) (k:Ob) (hs:small s.heap) (hl:s.d5.length≤1000) (h9:∀ d ∈ s.d5,U0 s.heap d [9]=0) (i:Nat) (d v:Ob) (ht:a8v s.heap s.d5 k i d v):l3 P G T4 [aS s,aO k] [] (.o0 [aO v,.bool true]):=by
 refine k8 C (a6C C) rfl ?_
 have kP:=c0G C s k hs hl h9 i d v ht
 obtain ⟨hd,hv,hj⟩:=ht
 have hil:=(List.getElem?_eq_some_iff.1 hd).1
 have hrow:=K4 (f:=i4) hd
 obtain ⟨r0,r1⟩:=b9Z (h9 d (List.mem_of_getElem? hd))
 have kF:=a4D C s.heap d k r0 r1 hs
 rw [hv] at kF
 repeat' ((conv=>whnf);first | (with_reducible refine sC (by kernel_rfl) ?_) | ((first | (with_reducible first | refine sB ?_ | refine z7 ?_ | refine z8 ?_) | refine sP (by rfl) ?_);first | refine oT ?_ | refine oF ?_ | (refine Or.inr (Or.inr ⟨fun hsp=>?_,fun hsp=>?_⟩) <;>(try simp only [nm,List.length_map] at hsp) <;>try subst hsp)) | refine ⟨_,_,kP,?_⟩ | refine ⟨_,_,kF,?_⟩ | refine sS (e7 (by rfl) (by rfl) (by omega) hrow) ?_ | fail)
 all_goals (conv=>whnf)
 all_goals (first | exact PV.le.refl _ | ((repeat' (first | (with_reducible exact PV.le.refl _) | exact PV.le.emp _ | exact E6.nil | (with_reducible refine p8 ?_) | (with_reducible refine o6 ?_) | (refine E6.cons ?_ ?_) | (with_reducible refine l0 ?_) | (with_reducible refine q8 ?_) | (with_reducible refine A9 ?_) | (with_reducible refine z9 ?_) | (with_reducible refine o3 ?_) | (refine A8 ?_))) <;>first | rfl | exact le_of_eq rfl))
set_option maxHeartbeats 4000000 in
theorem b5H (C:Laid P) (s:B8) (k:Ob) (hs:small s.heap) (hl:s.d5.length≤1000) (h9:∀ d ∈ s.d5,U0 s.heap d [9]=0) (hno:b0J s.heap s.d5 k):l3 P G T4 [aS s,aO k] [] (.o0 [aO V8,.bool false]):=by
 refine k8 C (a6C C) rfl ?_
 have kP:=b5F C s k hs hl h9 hno
 repeat' ((conv=>whnf);first | (with_reducible refine sC (by kernel_rfl) ?_) | ((first | (with_reducible first | refine sB ?_ | refine z7 ?_ | refine z8 ?_) | refine sP (by rfl) ?_);first | refine oT ?_ | refine oF ?_ | (refine Or.inr (Or.inr ⟨fun hsp=>?_,fun hsp=>?_⟩) <;>(try simp only [nm,List.length_map] at hsp) <;>try subst hsp)) | refine ⟨_,_,kP,?_⟩ | refine sS (e7 (by rfl) (by rfl) (by omega) hrow) ?_ | fail)
 all_goals (conv=>whnf)
 all_goals (first | exact PV.le.refl _ | ((repeat' (first | (with_reducible exact PV.le.refl _) | exact PV.le.emp _ | exact E6.nil | (with_reducible refine p8 ?_) | (with_reducible refine o6 ?_) | (refine E6.cons ?_ ?_) | (with_reducible refine l0 ?_) | (with_reducible refine q8 ?_) | (with_reducible refine A9 ?_) | (with_reducible refine z9 ?_) | (with_reducible refine o3 ?_) | (refine A8 ?_))) <;>first | rfl | exact le_of_eq rfl))
end Go.Ab.Td
namespace Go.Ab.Td.TdW16
set_option maxRecDepth 100000
open Go Go.Ab Go.Ab.Td
variable {P:Program}
set_option linter.unusedSimpArgs false
def a2r:TF:=(.node (.node (.node (.node (.node (.leaf g8 a0y) (.node (.node (.leaf u1 a0E) (.leaf U7 a1o)) (.node (.leaf E9 a0F) (.leaf M3 a3M)))) (.node (.node (.node (.leaf F7 Q0) (.leaf r7 a5o)) (.node (.leaf L6 a0H) (.leaf V5 a2F))) (.leaf y0 D7))) (.node (.node (.node (.leaf y5 a2J) (.node (.node (.leaf u4 M7) (.leaf L7 a0I)) .nil)) (.node (.node (.node (.leaf w8 R1) (.leaf y1 a1J)) (.leaf N7 Z6)) (.leaf P3 a1H))) (.node (.node (.leaf k7 a0z) (.leaf x1 F4)) (.node (.node (.leaf y7 J7) (.leaf U9 a1q)) (.leaf C2 S5))))) (.node (.node (.node (.node (.node (.leaf o8 S4) (.leaf J4 a1M)) (.node (.node (.leaf O0 a5m) (.leaf l9 p7)) .nil)) (.node (.node (.leaf I9 a1I) (.leaf C6 a0A)) (.leaf y3 a2C))) (.node (.node (.leaf J0 a4h) (.node (.leaf x2 F6) (.leaf P4 a1L))) (.node (.node (.leaf m6 M6) (.leaf K3 W2)) .nil))) (.node (.node (.node (.leaf C1 R9) (.leaf v7 J8)) (.node (.node (.node (.leaf J2 a4j) (.leaf x7 H3)) (.leaf s9 Z9)) .nil)) (.node (.node (.leaf R4 a0x) (.leaf r6 F5)) (.node (.node (.leaf H9 a2I) (.leaf R5 a0B)) (.leaf e6 Q1)))))) (.node (.node (.node (.node (.node (.node (.leaf m8 W3) (.leaf q9 U4)) .nil) (.node (.node (.node (.leaf u3 E7) (.leaf G7 Y7)) (.leaf U6 a1n)) (.leaf A7 M8))) (.node (.node (.node (.leaf X6 a4f) (.leaf V1 a9M)) (.node (.leaf V4 a2E) (.leaf V0 a2B))) (.node (.leaf D8 M4) (.leaf a2e a6m)))) (.node (.node (.node (.leaf a3r a7P) (.node (.node (.leaf O1 a2G) (.leaf u2 H2)) .nil)) (.node (.node (.leaf u7 U1) (.leaf N8 Z8)) .nil)) (.node (.leaf y4 R0) (.node (.node (.node (.leaf C5 a9L) (.leaf u9 U2)) (.leaf K2 W1)) (.leaf E1 a3J))))) (.node (.node (.node (.node (.node (.leaf N9 a5l) (.leaf a2R a5n)) (.node (.node (.leaf L4 a9N) (.leaf O7 Y6)) .nil)) (.node (.node (.leaf L5 a0G) (.leaf s8 Z7)) .nil)) (.node (.node (.leaf X7 a4g) (.leaf E4 U3)) (.node (.node (.leaf J1 a4i) (.leaf U8 a1p)) .nil))) (.node (.node (.node (.node (.leaf B5 I6) (.leaf x3 a0D)) (.node (.leaf o4 C4) (.leaf E2 a3K))) (.node (.node (.node (.leaf I8 a4e) (.leaf D4 Y8)) (.leaf B4 I5)) .nil)) (.node (.node (.leaf N6 Z5) (.leaf C7 Q9)) (.node (.node (.leaf y9 J9) (.leaf R6 a0C)) (.leaf a3s a7Q)))))))
def a1e:TF:=.nil
def b7n:TF:=(.node .nil (.node .nil (.node (.leaf O7 Y6) (.leaf x3 a0D))))
def b3n:TF:=(.leaf l9 p7)
def ext (_:Nat):Option a2A:=none
theorem c4d (C:Laid P):a2r.all (d8 P)=true:=by simp only [a2r,TF.all,a0f C,a0T C,b2U C,a4q C,a0g C,a7C C,a6Z C,a8a C,b8F C,a0h C,a5E C,a1B C,a4w C,b4v C,a6B C,b4w C,b8E C,b2T C,b2S C,a0Q C,a9d C,a7X C,b0c C,b0b C,a3R C,N3 C,a7Y C,a7Z C,N4 C,a4r C,a2O C,a5A C,a7o C,b0d C,b0e C,a7n C,a9e C,a9f C,a6A C,a5D C,a5B C,a4u C,a1A C,a6D C,a2P C,a7B C,b5s C,a2c C,a6z C,Q3 C,b6E C,a3Q C,W6 C,a2b C,a9g C,a5H C,b6D C,a6y C,a4s C,a6d C,b2R C,a3k C,a2o C,a4t C,a3m C,a1P C,a1y C,T3 C,a2p C,W7 C,a1z C,a5G C,a2x C,N2 C,a5V C,a3o C,T1 C,W8 C,L1 C,a3n C,a5C C,Q6 C,Q4 C,a0S C,Q5 C,a0R C,a3l C,a0i C,Bool.and_self]
theorem c2q (_C:Laid P):a1e.all (d8 P)=true:=by simp only [a1e,TF.all,Bool.and_self]
theorem c4e (C:Laid P):b7n.all (d8 P)=true:=by simp only [b7n,TF.all,a5V C,a6B C,Bool.and_self]
theorem a4p (C:Laid P):S9 P l9 p7=true:=by
 unfold S9
 rw [N2 C]
 kernel_rfl
theorem c2r (C:Laid P):b3n.all (S9 P)=true:=by simp only [b3n,TF.all,a4p C,Bool.and_self]
theorem b5l:a3H P G fun g=>(ext g).map a6c:=by
 intro g h hg
 cases hg
theorem a9m:∀ g ps own r,kn0 g ps=some (own,r)→l3 P G g ps own r:=fun _ _ _ _ h=>by cases h
theorem run:isR [] (.bool true) ((a5s G kn0 ext b7n.fn b3n.fn a2r.fn a1e.fn 10000 20).call J2 [])=true:=by kernel_rfl
theorem ok (C:Laid P):l3 P G J2 [] [] (.bool true):=b0n C.mixed a9m b5l (TF.d6 (c4e C)) (TF.d6 (c2r C)) (TF.d6 (c4d C)) (TF.d6 (c2q C)) (b6C run)
end Go.Ab.Td.TdW16
namespace Go.Ab
open Go.RowKit
end Go.Ab
namespace Go.Ab
open Go.RowKit
set_option linter.unusedVariables false
end Go.Ab
namespace Go.Ab
open Go.RowKit
end Go.Ab
namespace Go.Ab.Td.TdW19
set_option maxRecDepth 100000
set_option maxRecDepth 100000
open Go Go.Ab Go.Ab.Td
variable {P:Program}
set_option linter.unusedSimpArgs false
def a1e:TF:=.nil
def c6v:List AV:=[.pv (.int .i64 (0)),.pv (.bool false),.pv (.int .i64 (0)),.pv (.str []),.pv (.int .i64 (0)),.pv (.int .i64 (0)),.pv (.int .i64 (0))]
def ext (g:Nat):Option a2A:=match Nat.beq g u3 with | true=>some (a7U 7 64) | false=>none
theorem c2q (_C:Laid P):a1e.all (d8 P)=true:=by simp only [a1e,TF.all,Bool.and_self]
theorem b9V:E7=a6r 7 64 c6v:=rfl
theorem b5l (C:Laid P):a3H P G fun g=>(ext g).map a6c:=by
 intro g h hg
 cases hb:Nat.beq g u3 with
 | true=>
   have:=Nat.eq_of_beq_eq_true hb
   subst this
   cases hg
   exact b9W C.mixed (by rw [← b9V];exact a0f C)
 | false=>
   have:ext g=none:=by unfold ext;rw [hb]
   simp only [this] at hg
   cases hg
theorem a9m:∀ g ps own r,kn0 g ps=some (own,r)→l3 P G g ps own r:=fun _ _ _ _ h=>by cases h
end Go.Ab.Td.TdW19
namespace Go.Ab.Td
set_option maxRecDepth 100000
open Go Go.Ab
variable {P:Program}
set_option linter.unusedSimpArgs false
attribute [local irreducible] e9
end Go.Ab.Td
namespace Go.Ab.Td
set_option maxRecDepth 100000
open Go Go.Ab
variable {P:Program}
set_option linter.unusedSimpArgs false
attribute [local irreducible] e9
end Go.Ab.Td
namespace Go.Ab.Td
set_option maxRecDepth 100000
open Go Go.Ab
variable {P:Program}
set_option linter.unusedSimpArgs false
attribute [local irreducible] e9
end Go.Ab.Td

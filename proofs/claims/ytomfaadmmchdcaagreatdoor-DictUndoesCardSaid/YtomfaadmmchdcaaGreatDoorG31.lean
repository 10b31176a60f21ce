/- A part of the proof: the texts TdZb, TdW18, TdL. Under: nothing. -/
import Derived.Test.YtomfaadmmchdcaaGreatDoorG30
import Derived.Test.YtomfaadmmchdcaaGreatDoorG05
import Derived.Test.YtomfaadmmchdcaaGreatDoorG07
import Derived.KernelRfl
import Derived.Test.YtomfaadmmchdcaaGreatDoorG23
set_option linter.unusedVariables false
namespace Go.Ab.Td
set_option maxRecDepth 100000
set_option maxRecDepth 100000
open Go Go.Ab
variable {P:Program}
set_option linter.unusedSimpArgs false
attribute [local irreducible] e9
theorem b5r (C:Laid P):S9 P l9 p7=true:=by
 unfold S9
 rw [N2 C]
 kernel_rfl
def c6o (g:Nat):Option n6:=match Nat.beq g l9 with | true=>some p7 | false=>none
theorem b7P (C:Laid P) {g:Nat} {c:n6} {ps:List PV} {r:PV} (hk:d8 P g c=true) (hl:ps.length=c.nparams) (h:fnV G (l3 P G) noX noT c6o 1 c ps r):l3 P G g ps [] r:=
 b3I C.mixed hk (fun _ _ h=>by cases h) (fun _ _ h=>by cases h) (fun g c h=>by
  unfold c6o at h
  split at h
  ·rename_i hb
   have:=Nat.eq_of_beq_eq_true hb
   subst this
   cases h
   exact b5r C
  ·cases h) hl h
def a8v (h:List Cl) (ds:List Ob) (k:Ob) (i:Nat) (d v:Ob):Prop:=ds[i]?=some d∧look (cellAt h d) k=some v∧∀ (j:Nat) (d':Ob),i<j→ds[j]?=some d'→look (cellAt h d') k=none
def b0J (h:List Cl) (ds:List Ob) (k:Ob):Prop:=∀ d ∈ ds,look (cellAt h d) k=none
theorem c2g (h:List Cl) (k:Ob) (ds:List Ob):(∃ i d v,a8v h ds k i d v)∨b0J h ds k:=by
 have key:∀ n,n≤ds.length→(∃ i d v,a8v h ds k i d v)∨∀ (j:Nat) (d:Ob),ds.length - n≤j→ds[j]?=some d→look (cellAt h d) k=none:=by
  intro n
  induction n with
  | zero=>exact fun _=>.inr fun j d hj hd=>by have:=(List.getElem?_eq_some_iff.1 hd).1;omega
  | succ n ih=>
    intro hn
    rcases ih (by omega) with h1 | h1
    ·exact .inl h1
    ·obtain ⟨d,hd⟩:∃ d,ds[ds.length - (n+1)]?=some d:=⟨_,List.getElem?_eq_getElem (by omega)⟩
     cases hv:look (cellAt h d) k with
     | some v=>exact .inl ⟨_,d,v,hd,hv,fun j d' hj hd'=>h1 j d' (by omega) hd'⟩
     | none=>
       refine .inr fun j d' hj hd'=>?_
       by_cases e:j=ds.length - (n+1)
       ·subst e;rw [hd] at hd';cases hd';exact hv
       ·exact h1 j d' (by omega) hd'
 rcases key ds.length (Nat.le_refl _) with h1 | h1
 ·exact .inl h1
 ·refine .inr fun d hd=>?_
  obtain ⟨j,hj⟩:=List.getElem?_of_mem hd
  exact h1 j d (by omega) hj
set_option maxHeartbeats 1000000 in
theorem a1k (C:Laid P) (s:B8):l3 P G C2 [aS s] [] (.func (.func l9) [] [.ref (c5y s)]):=by
 refine k8 C (a2c C) rfl ?_
 repeat' ((conv=>whnf);first | (with_reducible refine sC (by kernel_rfl) ?_) | ((first | (with_reducible first | refine sB ?_ | refine z7 ?_ | refine z8 ?_) | refine sP (by rfl) ?_);first | refine oT ?_ | refine oF ?_ | (refine Or.inr (Or.inr ⟨fun hsp=>?_,fun hsp=>?_⟩) <;>(try simp only [nm] at hsp) <;>try subst hsp)) | fail)
 all_goals (conv=>whnf)
 all_goals (first | exact PV.le.refl _ | ((repeat' (first | (with_reducible exact PV.le.refl _) | exact PV.le.emp _ | exact E6.nil | (with_reducible refine p8 ?_) | (with_reducible refine o6 ?_) | (refine E6.cons ?_ ?_) | (with_reducible refine l0 ?_) | (with_reducible refine q8 ?_) | (with_reducible refine A9 ?_) | (with_reducible refine z9 ?_) | (with_reducible refine o3 ?_) | (refine A8 ?_))) <;>first | rfl | exact le_of_eq rfl))
set_option maxHeartbeats 8000000 in
theorem a7e (C:Laid P) (s:B8) (k:Ob) (hs:small s.heap) (hl:s.d5.length≤1000) (h9:∀ d ∈ s.d5,U0 s.heap d [9]=0) (hn:∀ d ∈ s.d5,d.n<9223372036854775808) (i:Nat) (d v:Ob) (ht:a8v s.heap s.d5 k i d v):l3 P G k7 [aS s,aO k] [] (.o0 [aO d,aO v,.bool true]):=by
 refine b7P C (a0Q C) rfl ?_
 obtain ⟨hd,hv,hj⟩:=ht
 have hil:=(List.getElem?_eq_some_iff.1 hd).1
 repeat' ((conv=>whnf);first | (with_reducible refine sC (by kernel_rfl) ?_) | ((first | (with_reducible first | refine sB ?_ | refine z7 ?_ | refine z8 ?_) | refine sP (by rfl) ?_);first | refine oT ?_ | refine oF ?_ | (refine Or.inr (Or.inr ⟨fun hsp=>?_,fun hsp=>?_⟩) <;>(try simp only [nm,List.length_map] at hsp) <;>try subst hsp)) | refine ⟨_,_,a1k C s,?_⟩ | fail)
 all_goals (conv=>whnf)
 intro X hX hW
 have w0:IntKind.i64.wrap (((List.map i4 s.d5).length:Int) - 1)=((s.d5.length:Nat):Int) - 1:=by rw [List.length_map,wrap_small (by omega) (by omega)]
 refine c3O hX hW (fun st (a:Nat)=>st.upd [(3,.pv (pI ((a:Int) - 1)))] []) (fun a k=>a=k∧(a≤s.d5.length∧i<a)) s.d5.length s.d5.length (by (conv=>whnf);first | done | rfl | (rw [w0];first | done | rfl)) ⟨rfl,Nat.le_refl _,hil⟩ ?_
 intro m a ih hI
 obtain ⟨ea,hI1,hI2⟩:=hI
 subst ea
 by_cases ha:a=0
 ·exact absurd hI2 (by omega)
 ·have haN:(((a:Int) - 1)).toNat=a - 1:=by omega
  obtain ⟨d',hd'⟩:∃ d',s.d5[a - 1]?=some d':=⟨_,List.getElem?_eq_getElem (by omega)⟩
  have hrow:(List.map i4 s.d5)[((a:Int) - 1).toNat]?=some (i4 d'):=by rw [haN,List.getElem?_map,hd'];rfl
  have w1:IntKind.i64.wrap ((a:Int) - 1 - 1)=((a - 1:Nat):Int) - 1:=by rw [wrap_small (by omega) (by omega)];omega
  have hm:=List.mem_of_getElem? hd'
  have kF:=a9q C s.heap d' (hn d' hm) k hs (h9 d' hm)
  by_cases e:a - 1=i
  ·subst e
   rw [hd] at hd'
   cases hd'
   rw [hv] at kF
   repeat' ((conv=>whnf);first | (with_reducible refine sC (by kernel_rfl) ?_) | ((first | (with_reducible first | refine sB ?_ | refine z7 ?_ | refine z8 ?_) | refine sP (by rfl) ?_);first | refine oT ?_ | refine oF ?_ | (refine Or.inr (Or.inr ⟨fun hsp=>?_,fun hsp=>?_⟩) <;>(try simp only [nm,List.length_map] at hsp) <;>try subst hsp)) | refine ⟨_,_,kF,?_⟩ | refine sS (e7 (by rfl) (by rfl) (by omega) hrow) ?_ | fail)
   all_goals (conv=>whnf)
   all_goals (first | exact PV.le.refl _ | ((repeat' (first | (with_reducible exact PV.le.refl _) | exact PV.le.emp _ | exact E6.nil | (with_reducible refine p8 ?_) | (with_reducible refine o6 ?_) | (refine E6.cons ?_ ?_) | (with_reducible refine l0 ?_) | (with_reducible refine q8 ?_) | (with_reducible refine A9 ?_) | (with_reducible refine z9 ?_) | (with_reducible refine o3 ?_) | (refine A8 ?_))) <;>first | rfl | exact le_of_eq rfl))
  ·rw [hj (a - 1) d' (by omega) hd'] at kF
   repeat' ((conv=>whnf);first | (with_reducible refine sC (by kernel_rfl) ?_) | ((first | (with_reducible first | refine sB ?_ | refine z7 ?_ | refine z8 ?_) | refine sP (by rfl) ?_);first | refine oT ?_ | refine oF ?_ | (refine Or.inr (Or.inr ⟨fun hsp=>?_,fun hsp=>?_⟩) <;>(try simp only [nm,List.length_map] at hsp) <;>try subst hsp)) | refine ⟨_,_,kF,?_⟩ | refine sS (e7 (by rfl) (by rfl) (by omega) hrow) ?_ | fail)
   all_goals (conv=>whnf)
   all_goals (refine ih (a - 1) (a - 1) _ (by omega) ⟨rfl,by omega,by omega⟩ (by (conv=>whnf);first | done | rfl | (rw [w1];first | done | rfl)))
set_option maxHeartbeats 1000000 in
theorem c0H (C:Laid P) (s:B8) (k:Ob) (hs:small s.heap) (hl:s.d5.length≤1000) (h9:∀ d ∈ s.d5,U0 s.heap d [9]=0) (hn:∀ d ∈ s.d5,d.n<9223372036854775808) (i:Nat) (d v:Ob) (ht:a8v s.heap s.d5 k i d v):l3 P G I8 [aS s,aO k] [] (.o0 [aO v,.bool true]):=by
 refine k8 C (a4q C) rfl ?_
 repeat' ((conv=>whnf);first | (with_reducible refine sC (by kernel_rfl) ?_) | ((first | (with_reducible first | refine sB ?_ | refine z7 ?_ | refine z8 ?_) | refine sP (by rfl) ?_);first | refine oT ?_ | refine oF ?_ | (refine Or.inr (Or.inr ⟨fun hsp=>?_,fun hsp=>?_⟩) <;>(try simp only [nm] at hsp) <;>try subst hsp)) | refine ⟨_,_,a7e C s k hs hl h9 hn i d v ht,?_⟩ | fail)
 all_goals (conv=>whnf)
 all_goals (first | exact PV.le.refl _ | ((repeat' (first | (with_reducible exact PV.le.refl _) | exact PV.le.emp _ | exact E6.nil | (with_reducible refine p8 ?_) | (with_reducible refine o6 ?_) | (refine E6.cons ?_ ?_) | (with_reducible refine l0 ?_) | (with_reducible refine q8 ?_) | (with_reducible refine A9 ?_) | (with_reducible refine z9 ?_) | (with_reducible refine o3 ?_) | (refine A8 ?_))) <;>first | rfl | exact le_of_eq rfl))
set_option maxHeartbeats 8000000 in
theorem a2S (C:Laid P) (s:B8) (k:Ob) (hs:small s.heap) (hl:s.d5.length≤1000) (h9:∀ d ∈ s.d5,U0 s.heap d [9]=0) (hn:∀ d ∈ s.d5,d.n<9223372036854775808) (hno:b0J s.heap s.d5 k):l3 P G k7 [aS s,aO k] [] (.o0 [aO V8,aO V8,.bool false]):=by
 refine b7P C (a0Q C) rfl ?_
 repeat' ((conv=>whnf);first | (with_reducible refine sC (by kernel_rfl) ?_) | ((first | (with_reducible first | refine sB ?_ | refine z7 ?_ | refine z8 ?_) | refine sP (by rfl) ?_);first | refine oT ?_ | refine oF ?_ | (refine Or.inr (Or.inr ⟨fun hsp=>?_,fun hsp=>?_⟩) <;>(try simp only [nm,List.length_map] at hsp) <;>try subst hsp)) | refine ⟨_,_,a1k C s,?_⟩ | fail)
 all_goals (conv=>whnf)
 intro X hX hW
 have w0:IntKind.i64.wrap (((List.map i4 s.d5).length:Int) - 1)=((s.d5.length:Nat):Int) - 1:=by rw [List.length_map,wrap_small (by omega) (by omega)]
 refine c3O hX hW (fun st (a:Nat)=>st.upd [(3,.pv (pI ((a:Int) - 1)))] []) (fun a k=>a=k∧(a≤s.d5.length)) s.d5.length s.d5.length (by (conv=>whnf);first | done | rfl | (rw [w0];first | done | rfl)) ⟨rfl,Nat.le_refl _⟩ ?_
 intro m a ih hI
 obtain ⟨ea,hI1⟩:=hI
 subst ea
 by_cases ha:a=0
 ·subst ha
  repeat' ((conv=>whnf);first | (with_reducible refine sC (by kernel_rfl) ?_) | ((first | (with_reducible first | refine sB ?_ | refine z7 ?_ | refine z8 ?_) | refine sP (by rfl) ?_);first | refine oT ?_ | refine oF ?_ | (refine Or.inr (Or.inr ⟨fun hsp=>?_,fun hsp=>?_⟩) <;>(try simp only [nm,List.length_map] at hsp) <;>try subst hsp)) | fail)
  all_goals (conv=>whnf)
  all_goals (first | exact PV.le.refl _ | ((repeat' (first | (with_reducible exact PV.le.refl _) | exact PV.le.emp _ | exact E6.nil | (with_reducible refine p8 ?_) | (with_reducible refine o6 ?_) | (refine E6.cons ?_ ?_) | (with_reducible refine l0 ?_) | (with_reducible refine q8 ?_) | (with_reducible refine A9 ?_) | (with_reducible refine z9 ?_) | (with_reducible refine o3 ?_) | (refine A8 ?_))) <;>first | rfl | exact le_of_eq rfl))
 ·have haN:(((a:Int) - 1)).toNat=a - 1:=by omega
  obtain ⟨d',hd'⟩:∃ d',s.d5[a - 1]?=some d':=⟨_,List.getElem?_eq_getElem (by omega)⟩
  have hrow:(List.map i4 s.d5)[((a:Int) - 1).toNat]?=some (i4 d'):=by rw [haN,List.getElem?_map,hd'];rfl
  have w1:IntKind.i64.wrap ((a:Int) - 1 - 1)=((a - 1:Nat):Int) - 1:=by rw [wrap_small (by omega) (by omega)];omega
  have hm:=List.mem_of_getElem? hd'
  have kF:=a9q C s.heap d' (hn d' hm) k hs (h9 d' hm)
  rw [hno d' hm] at kF
  repeat' ((conv=>whnf);first | (with_reducible refine sC (by kernel_rfl) ?_) | ((first | (with_reducible first | refine sB ?_ | refine z7 ?_ | refine z8 ?_) | refine sP (by rfl) ?_);first | refine oT ?_ | refine oF ?_ | (refine Or.inr (Or.inr ⟨fun hsp=>?_,fun hsp=>?_⟩) <;>(try simp only [nm,List.length_map] at hsp) <;>try subst hsp)) | refine ⟨_,_,kF,?_⟩ | refine sS (e7 (by rfl) (by rfl) (by omega) hrow) ?_ | fail)
  all_goals (conv=>whnf)
  all_goals (refine ih (a - 1) (a - 1) _ (by omega) ⟨rfl,by omega⟩ (by (conv=>whnf);first | done | rfl | (rw [w1];first | done | rfl)))
set_option maxHeartbeats 1000000 in
theorem b5G (C:Laid P) (s:B8) (k:Ob) (hs:small s.heap) (hl:s.d5.length≤1000) (h9:∀ d ∈ s.d5,U0 s.heap d [9]=0) (hn:∀ d ∈ s.d5,d.n<9223372036854775808) (hno:b0J s.heap s.d5 k):l3 P G I8 [aS s,aO k] [] (.o0 [aO V8,.bool false]):=by
 refine k8 C (a4q C) rfl ?_
 repeat' ((conv=>whnf);first | (with_reducible refine sC (by kernel_rfl) ?_) | ((first | (with_reducible first | refine sB ?_ | refine z7 ?_ | refine z8 ?_) | refine sP (by rfl) ?_);first | refine oT ?_ | refine oF ?_ | (refine Or.inr (Or.inr ⟨fun hsp=>?_,fun hsp=>?_⟩) <;>(try simp only [nm] at hsp) <;>try subst hsp)) | refine ⟨_,_,a2S C s k hs hl h9 hn hno,?_⟩ | fail)
 all_goals (conv=>whnf)
 all_goals (first | exact PV.le.refl _ | ((repeat' (first | (with_reducible exact PV.le.refl _) | exact PV.le.emp _ | exact E6.nil | (with_reducible refine p8 ?_) | (with_reducible refine o6 ?_) | (refine E6.cons ?_ ?_) | (with_reducible refine l0 ?_) | (with_reducible refine q8 ?_) | (with_reducible refine A9 ?_) | (with_reducible refine z9 ?_) | (with_reducible refine o3 ?_) | (refine A8 ?_))) <;>first | rfl | exact le_of_eq rfl))
end Go.Ab.Td
namespace Go.Ab.Td.TdW18
set_option maxRecDepth 100000
set_option maxRecDepth 100000
open Go Go.Ab Go.Ab.Td
variable {P:Program}
set_option linter.unusedSimpArgs false
def a2r:TF:=(.node (.node (.node (.node (.node .nil (.node (.node (.node (.leaf F0 M5) (.leaf u1 a0E)) .nil) (.node (.leaf E9 a0F) (.leaf M3 a3M)))) (.node (.node .nil (.node (.node (.leaf O9 a2m) (.leaf L6 a0H)) (.leaf V5 a2F))) (.leaf n5 a0J))) (.node (.node (.node (.leaf y5 a2J) (.node (.node (.leaf u4 M7) (.leaf L7 a0I)) .nil)) (.node (.node (.node (.leaf w8 R1) (.leaf y1 a1J)) .nil) (.node (.leaf A2 G2) (.leaf P3 a1H)))) (.node (.node .nil (.node (.node (.leaf X8 a4k) (.leaf x1 F4)) (.leaf y2 X5))) (.leaf y7 J7)))) (.node (.node (.node (.node (.leaf J4 a1M) (.leaf O0 a5m)) (.node (.node (.node (.leaf P5 a4n) (.leaf I9 a1I)) .nil) (.node (.leaf O8 Y9) (.leaf y3 a2C)))) (.node (.node .nil (.node (.node (.leaf V3 a2D) (.leaf x2 F6)) (.leaf P4 a1L))) (.node (.node (.node (.leaf m6 M6) (.leaf C9 a0K)) .nil) .nil))) (.node (.node (.node .nil (.node (.node (.leaf J3 a1K) (.leaf v7 J8)) .nil)) (.node (.leaf x7 H3) (.leaf A4 G4))) (.node (.node .nil (.node (.leaf r6 F5) (.leaf s0 K9))) (.leaf H9 a2I))))) (.node (.node (.node (.node (.leaf q9 U4) (.node (.node (.node (.leaf u3 E7) (.leaf G7 Y7)) .nil) (.node (.node (.leaf B6 I7) (.leaf A7 M8)) (.leaf V6 a1r)))) (.node (.node .nil (.node (.node (.leaf a3t a7R) (.leaf V4 a2E)) (.leaf V0 a2B))) (.leaf x5 a2H))) (.node (.node (.node .nil (.node (.node (.leaf O1 a2G) (.leaf u2 H2)) .nil)) (.node (.leaf u7 U1) (.leaf A3 G3))) (.node (.node .nil (.node (.node (.leaf a7c a9P) (.leaf y4 R0)) (.leaf o9 B9))) (.node (.leaf u9 U2) (.leaf E1 a3J))))) (.node (.node (.node .nil (.node (.leaf L5 a0G) (.node (.leaf H8 R2) (.leaf o5 K8)))) (.node (.node (.leaf X9 a4m) (.node (.leaf a1Q a4l) (.leaf E4 U3))) (.leaf O2 a0b))) (.node (.node (.node .nil (.node (.node (.leaf V2 a9O) (.leaf o4 C4)) (.leaf E2 a3K))) (.node (.leaf D4 Y8) (.leaf A5 G5))) (.node (.node (.leaf p9 a5p) (.leaf C7 Q9)) (.leaf y9 J9))))))
def a1e:TF:=.nil
def b7n:TF:=(.node (.node (.node (.leaf n5 a0J) (.leaf y2 X5)) (.node (.node (.leaf O8 Y9) (.leaf V3 a2D)) (.leaf J3 a1K))) (.leaf H8 R2))
def b3n:TF:=.nil
def ext (_:Nat):Option a2A:=none
theorem c4d (C:Laid P):a2r.all (d8 P)=true:=by simp only [a2r,TF.all,b2X C,b4x C,a3p C,a0f C,b2Z C,a0T C,a0g C,a8a C,a0h C,a5E C,a7D C,b8G C,b0W C,b6G C,a9i C,b2W C,b2V C,b8H C,a4x C,a5W C,a3S C,a3C C,a3D C,a3E C,a3F C,a1B C,a4w C,a6A C,a5D C,a5B C,a4u C,a1A C,a4v C,a2d C,a4V C,a6D C,b0h C,a2P C,a4U C,a7B C,a6z C,a5H C,a3k C,a2o C,a4t C,a3m C,a1P C,a1y C,T3 C,a2p C,a2Q C,a5F C,a9l C,a8d C,W7 C,a1z C,a5G C,a2x C,a3o C,T1 C,W8 C,L1 C,a3n C,a5C C,Q6 C,Q4 C,a0S C,Q5 C,a0R C,a3l C,a0i C,Bool.and_self]
theorem c2q (_C:Laid P):a1e.all (d8 P)=true:=by simp only [a1e,TF.all,Bool.and_self]
theorem c4e (C:Laid P):b7n.all (d8 P)=true:=by simp only [b7n,TF.all,a5W C,a3S C,a2Q C,a4v C,a7D C,a9i C,Bool.and_self]
theorem c2r (_C:Laid P):b3n.all (S9 P)=true:=by simp only [b3n,TF.all,Bool.and_self]
theorem b5l:a3H P G fun g=>(ext g).map a6c:=by
 intro g h hg
 cases hg
theorem a9m:∀ g ps own r,kn0 g ps=some (own,r)→l3 P G g ps own r:=fun _ _ _ _ h=>by cases h
theorem run:isR [] (.bool true) ((a5s G kn0 ext b7n.fn b3n.fn a2r.fn a1e.fn 10000 20).call X9 [])=true:=by kernel_rfl
theorem ok (C:Laid P):l3 P G X9 [] [] (.bool true):=b0n C.mixed a9m b5l (TF.d6 (c4e C)) (TF.d6 (c2r C)) (TF.d6 (c4d C)) (TF.d6 (c2q C)) (b6C run)
end Go.Ab.Td.TdW18
namespace Go.Ab.Td
set_option maxRecDepth 100000
open Go Go.Ab
variable {P:Program}
set_option linter.unusedSimpArgs false
set_option linter.unusedVariables false
attribute [local irreducible] e9
end Go.Ab.Td

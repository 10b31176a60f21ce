/- A part of the proof: the texts TdN, TdUk, TdW19, TdSf, TdRu0, TdRu1. Under: nothing. -/
import Derived.Test.YtngmifmcohmfmaaDoorG25
import Derived.Test.YtngmifmcohmfmaaDoorG26
import Derived.Test.YtngmifmcohmfmaaDoorG15
import Derived.Test.YtngmifmcohmfmaaDoorG23
import Derived.Test.YtngmifmcohmfmaaDoorG07
import Derived.Test.YtngmifmcohmfmaaDoorG05
import Derived.KernelRfl
import Derived.Test.YtngmifmcohmfmaaDoorG10
import Derived.Test.YtngmifmcohmfmaaDoorG14
import Derived.Test.YtngmifmcohmfmaaDoorG22
import Derived.Test.YtngmifmcohmfmaaDoorG20
import Derived.Test.YtngmifmcohmfmaaDoorG21
import Derived.Test.YtngmifmcohmfmaaDoorG17
import Derived.Test.YtngmifmcohmfmaaDoorG16
namespace Go.Ab.Td
set_option maxRecDepth 100000
open Go Go.Ab
variable {P:Program}
set_option linter.unusedSimpArgs false
set_option linter.unusedVariables false
attribute [local irreducible] f0
end Go.Ab.Td
namespace Go.Ab.Td
set_option maxRecDepth 100000
set_option maxRecDepth 100000
open Go Go.Ab
variable {P:Program}
set_option linter.unusedSimpArgs false
attribute [local irreducible] f0
def b7e:List (List UInt8):=[[115,97,118,101],[114,101,115,116,111,114,101],[118,109,115,116,97,116,117,115]]
set_option maxHeartbeats 1000000 in
theorem a0S (C:Laid P):j7 P G Y2 [] [] (.sl 1 (b7e.map fun x=>[PV.str x])):=by
 refine i5 C (b4c C) rfl ?_
 repeat' ((conv=>whnf);first | (with_reducible refine sC (by kernel_rfl) ?_) | ((first | (with_reducible first | refine sB ?_ | refine o8 ?_ | refine o7 ?_) | refine sP (by rfl) ?_);first | refine oT ?_ | refine oF ?_ | (refine Or.inr (Or.inr ⟨fun hsp=>?_,fun hsp=>?_⟩) <;>(try simp only [nm] at hsp) <;>try subst hsp)) | fail)
 all_goals (conv=>whnf)
 all_goals (exact PV.le.refl _)
set_option maxHeartbeats 1000000 in
theorem b5M (C:Laid P) (w K A B N:Int) (S:List UInt8) (hw:w.tmod 8=0):j7 P G u9 [.agg [.int .u8 w,.int .u8 K,.int .u8 A,.int .u8 B,.int .i32 N,.str S]] [] (.str [115,97,118,101]):=by
 refine i5 C (R9 C) rfl ?_
 have ht0:0≤w.tmod 8:=by omega
 have hcs:(b7e.map fun x=>[PV.str x])[(w.tmod 8).toNat]?=some [PV.str [115,97,118,101]]:=by rw [hw];rfl
 repeat' ((conv=>whnf);first | (with_reducible refine sC (by kernel_rfl) ?_) | ((first | (with_reducible first | refine sB ?_ | refine o8 ?_ | refine o7 ?_) | refine sP (by rfl) ?_);first | refine Or.inl ⟨by first | assumption | (simp only [nm,hw];first | done | assumption | omega),?_⟩ | refine Or.inr (Or.inl ⟨by first | assumption | (simp only [nm,hw];first | done | assumption | omega),?_⟩) | (refine Or.inr (Or.inr ⟨fun hsp=>?_,fun hsp=>?_⟩) <;>(try simp only [nm,hw] at hsp) <;>try subst hsp)) | refine ⟨_,_,a0S C,?_⟩ | refine sS (a3k (by rfl) (by rfl) (by decide)) ?_ | refine sS (b5A (by rfl) (by rfl) ht0 hcs) ?_ | fail)
 all_goals (conv=>whnf)
 all_goals (first | exact PV.le.refl _ | (exfalso;omega))
set_option maxHeartbeats 1000000 in
theorem b1x (C:Laid P) (w K A B N:Int) (S:List UInt8) (hw:w.tmod 8=1):j7 P G u9 [.agg [.int .u8 w,.int .u8 K,.int .u8 A,.int .u8 B,.int .i32 N,.str S]] [] (.str [114,101,115,116,111,114,101]):=by
 refine i5 C (R9 C) rfl ?_
 have ht0:0≤w.tmod 8:=by omega
 have hcs:(b7e.map fun x=>[PV.str x])[(w.tmod 8).toNat]?=some [PV.str [114,101,115,116,111,114,101]]:=by rw [hw];rfl
 repeat' ((conv=>whnf);first | (with_reducible refine sC (by kernel_rfl) ?_) | ((first | (with_reducible first | refine sB ?_ | refine o8 ?_ | refine o7 ?_) | refine sP (by rfl) ?_);first | refine Or.inl ⟨by first | assumption | (simp only [nm,hw];first | done | assumption | omega),?_⟩ | refine Or.inr (Or.inl ⟨by first | assumption | (simp only [nm,hw];first | done | assumption | omega),?_⟩) | (refine Or.inr (Or.inr ⟨fun hsp=>?_,fun hsp=>?_⟩) <;>(try simp only [nm,hw] at hsp) <;>try subst hsp)) | refine ⟨_,_,a0S C,?_⟩ | refine sS (a3k (by rfl) (by rfl) (by decide)) ?_ | refine sS (b5A (by rfl) (by rfl) ht0 hcs) ?_ | fail)
 all_goals (conv=>whnf)
 all_goals (first | exact PV.le.refl _ | (exfalso;omega))
set_option maxHeartbeats 1000000 in
theorem b0B (C:Laid P) (w K A B N:Int) (S:List UInt8) (hw:w.tmod 8=2):j7 P G u9 [.agg [.int .u8 w,.int .u8 K,.int .u8 A,.int .u8 B,.int .i32 N,.str S]] [] (.str [118,109,115,116,97,116,117,115]):=by
 refine i5 C (R9 C) rfl ?_
 have ht0:0≤w.tmod 8:=by omega
 have hcs:(b7e.map fun x=>[PV.str x])[(w.tmod 8).toNat]?=some [PV.str [118,109,115,116,97,116,117,115]]:=by rw [hw];rfl
 repeat' ((conv=>whnf);first | (with_reducible refine sC (by kernel_rfl) ?_) | ((first | (with_reducible first | refine sB ?_ | refine o8 ?_ | refine o7 ?_) | refine sP (by rfl) ?_);first | refine Or.inl ⟨by first | assumption | (simp only [nm,hw];first | done | assumption | omega),?_⟩ | refine Or.inr (Or.inl ⟨by first | assumption | (simp only [nm,hw];first | done | assumption | omega),?_⟩) | (refine Or.inr (Or.inr ⟨fun hsp=>?_,fun hsp=>?_⟩) <;>(try simp only [nm,hw] at hsp) <;>try subst hsp)) | refine ⟨_,_,a0S C,?_⟩ | refine sS (a3k (by rfl) (by rfl) (by decide)) ?_ | refine sS (b5A (by rfl) (by rfl) ht0 hcs) ?_ | fail)
 all_goals (conv=>whnf)
 all_goals (first | exact PV.le.refl _ | (exfalso;omega))
set_option maxHeartbeats 1000000 in
theorem b5J (C:Laid P) (w K A B N:Int) (S:List UInt8) (hw:3≤w.tmod 8):j7 P G u9 [.agg [.int .u8 w,.int .u8 K,.int .u8 A,.int .u8 B,.int .i32 N,.str S]] [] (.str []):=by
 refine i5 C (R9 C) rfl ?_
 repeat' ((conv=>whnf);first | (with_reducible refine sC (by kernel_rfl) ?_) | ((first | (with_reducible first | refine sB ?_ | refine o8 ?_ | refine o7 ?_) | refine sP (by rfl) ?_);first | refine oT ?_ | refine oF ?_ | (refine Or.inr (Or.inr ⟨fun hsp=>?_,fun hsp=>?_⟩) <;>(try simp only [nm] at hsp) <;>try subst hsp)) | fail)
 all_goals (conv=>whnf)
 all_goals (first | exact PV.le.refl _ | (exfalso;omega))
end Go.Ab.Td
namespace Go.Ab.Td.TdW19
set_option maxRecDepth 100000
set_option maxRecDepth 100000
open Go Go.Ab Go.Ab.Td
variable {P:Program}
set_option linter.unusedSimpArgs false
def a0C:TF:=(.node (.node (.node (.node (.node (.node .nil (.node (.leaf F0 W7) (.leaf C3 a0n))) (.leaf y6 B9)) (.node (.node (.node (.leaf l8 P2) (.leaf q9 G5)) (.leaf n6 T3)) (.leaf G2 b0N))) (.node (.node (.leaf G4 T0) (.node (.leaf K3 a6a) (.node (.node (.leaf G1 V2) (.leaf y0 I4)) .nil))) (.node (.leaf o3 N4) (.node (.node (.leaf O1 a4e) (.leaf w6 Z9)) (.leaf C2 G9))))) (.node (.node .nil (.node (.node (.leaf y8 Y0) (.node (.leaf P6 a2M) (.leaf F7 X3))) (.node (.leaf a2H a5D) (.leaf I8 Y9)))) (.node (.node (.node .nil (.node (.node (.leaf B0 a2h) (.leaf u3 E8)) .nil)) (.leaf u6 B8)) (.node (.leaf x7 M1) (.node (.node (.leaf P0 a2R) (.leaf q8 O2)) (.leaf A7 O6)))))) (.node (.node (.node (.leaf F6 a2J) (.node (.node (.node (.leaf w9 a0R) (.leaf A1 P8)) (.leaf A9 Q0)) (.leaf y4 S3))) (.node (.node (.leaf p8 D7) (.node (.leaf W9 a4o) (.leaf m0 u7))) (.node (.node (.node (.leaf D8 J7) (.leaf C5 H3)) (.leaf u1 L4)) (.node (.node (.leaf m8 N0) (.leaf j8 R8)) .nil)))) (.node (.node (.node (.leaf N8 a3U) (.leaf Q8 a1Y)) (.node (.leaf N1 U7) (.leaf D1 a2K))) (.node (.node (.node (.leaf L5 a1O) (.leaf m7 A3)) (.leaf V8 a2Q)) (.node (.leaf R1 a4s) (.node (.node (.leaf J0 a2u) (.leaf u2 U9)) .nil))))))
def a0P:TF:=.nil
def b3i:TF:=(.node (.leaf l8 P2) (.node (.leaf u1 L4) (.node (.leaf Q8 a1Y) (.leaf V8 a2Q))))
def b3j:TF:=(.leaf m0 u7)
def c8e:List AV:=[.pv (.int .i64 (0)),.pv (.bool false),.pv (.int .i64 (0)),.pv (.str []),.pv (.int .i64 (0)),.pv (.int .i64 (0)),.pv (.int .i64 (0))]
def ext (g:Nat):Option a3n:=match Nat.beq g q9 with | true=>some (a8w 7 64) | false=>none
theorem c3w (C:Laid P):a0C.all (b9 P)=true:=by simp only [a0C,TF.all,b3H C,b3L C,a9Y C,a7C C,a0G C,b6u C,a6i C,a6K C,a3X C,a5C C,a1v C,a6u C,a4F C,a0j C,a3t C,a0e C,a8e C,a9X C,P7 C,u5 C,O3 C,a1G C,a3r C,a0F C,Z3 C,a1U C,X5 C,V0 C,a3a C,a4B C,a4U C,a1F C,a2j C,a1D C,a2P C,a4k C,a0s C,a5Q C,a6s C,a2A C,a0Y C,K9 C,M0 C,D9 C,R6 C,V9 C,R7 C,H7 C,Z8 C,a0H C,Bool.and_self]
theorem c2W (_C:Laid P):a0P.all (b9 P)=true:=by simp only [a0P,TF.all,Bool.and_self]
theorem c3k (C:Laid P):b3i.all (b9 P)=true:=by simp only [b3i,TF.all,V0 C,X5 C,a8e C,a9Y C,Bool.and_self]
theorem a5c (C:Laid P):O4 P m0 u7=true:=by
 unfold O4
 rw [R7 C]
 kernel_rfl
theorem c2S (C:Laid P):b3j.all (O4 P)=true:=by simp only [b3j,TF.all,a5c C,Bool.and_self]
theorem c1Q:G5=a6Y 7 64 c8e:=rfl
theorem b7N (C:Laid P):a4T P G fun g=>(ext g).map a6M:=by
 intro g h hg
 cases hb:Nat.beq g q9 with
 | true=>
   have:=Nat.eq_of_beq_eq_true hb
   subst this
   cases hg
   exact c2g C.mixed (by rw [← c1Q];exact a0j C)
 | false=>
   have:ext g=none:=by unfold ext;rw [hb]
   simp only [this] at hg
   cases hg
theorem a9S:∀ g ps own r,kn0 g ps=some (own,r)→j7 P G g ps own r:=fun _ _ _ _ h=>by cases h
theorem run:isR [] (.bool true) ((a4S G kn0 ext b3i.fn b3j.fn a0C.fn a0P.fn 10000 20).call R1 [])=true:=by kernel_rfl
theorem ok (C:Laid P):j7 P G R1 [] [] (.bool true):=a7B C.mixed a9S (b7N C) (TF.b8 (c3k C)) (TF.b8 (c2S C)) (TF.b8 (c3w C)) (TF.b8 (c2W C)) (b6w run)
end Go.Ab.Td.TdW19
namespace Go.Ab.Td
set_option maxRecDepth 100000
set_option maxRecDepth 100000
open Go Go.Ab
variable {P:Program}
set_option linter.unusedSimpArgs false
attribute [local irreducible] f0
set_option maxHeartbeats 8000000 in
theorem b2y (C:Laid P) (cells ops e9:List (List PV)) (s:F2) (ks:j7 P G F1 [.agg [.sl 5 cells,.sl 5 ops,.sl 1 e9]] [] (aS s)):j7 P G a1X [.agg [.sl 5 cells,.sl 5 ops,.sl 1 e9]] [] (aS {s with f45:=1}):=by
 refine i5 C (b3U C) rfl ?_
 repeat' ((conv=>whnf);first | (with_reducible refine sC (by kernel_rfl) ?_) | ((first | (with_reducible first | refine sB ?_ | refine o8 ?_ | refine o7 ?_) | refine sP (by rfl) ?_);first | refine oT ?_ | refine oF ?_ | (refine Or.inr (Or.inr ⟨fun hsp=>?_,fun hsp=>?_⟩) <;>(try simp only [nm] at hsp) <;>try subst hsp)) | refine ⟨_,_,ks,?_⟩ | fail)
 all_goals (conv=>whnf)
 all_goals (exact PV.le.refl _)
end Go.Ab.Td
namespace Go.Ab.Td
set_option maxRecDepth 100000
set_option maxRecDepth 100000
open Go Go.Ab
variable {P:Program}
set_option linter.unusedSimpArgs false
attribute [local irreducible] f0
theorem c3O {s:F2} (hst:c6f s) (hv:a6U s.heap) (hk:∀ o ∈ s.ops,o.kind≠12):SI False 0 {s with f45:=1} [] []∧SX {s with f45:=1}:=by
 obtain ⟨ops,e9,heap,rfl,hh,h20,hn,hd2,hd6,hdd⟩:=hst
 have hl:=hh.len
 obtain ⟨more,e, -, -⟩:=id hh
 have h10:10≤heap.length:=by rw [e,List.length_append];show 10≤10+_;omega
 refine ⟨⟨rfl,rfl,⟨hv.valid,⟨h10,by show heap.length≤60;omega⟩,hv.2.2,fun c hc=>a7O.nC (hh.ok c hc)⟩,by show ops.length≤100;omega,fun h=>h.elim,hn,by show e9.length≤20;omega,fun h=>h.elim,by simp,rfl,by simp,by simp,by show (0:Int)≤0∧(0:Int)≤((0:Nat):Int);omega⟩,fun o ho h12=>absurd h12 (hk o ho)⟩
end Go.Ab.Td
namespace Go.Ab.Td
set_option maxRecDepth 100000
set_option maxRecDepth 100000
open Go Go.Ab
variable {P:Program}
set_option linter.unusedSimpArgs false
attribute [local irreducible] f0
def b3p (p:Int × Wd):List PV:=c5t p.1 p.2
theorem c4s {qs:List PV} (h:b7L qs (.int .u8::a6f)):∃ p:Int × Wd,qs=b3p p∧(0≤p.1∧p.1<256):=by
 obtain ⟨a,b,rfl,h1,h2⟩:=b7L.split (ts:=[.int .u8]) (r:=a6f) h
 obtain ⟨w,rfl⟩:=c5B h2
 match a,h1.1 with
 | [q],_=>
   have k:=h1.2 0 _ _ rfl rfl
   cases k with
   | int hw=>exact ⟨(_,w),rfl,b9k hw⟩
theorem c2B {p:PV} (h:b5z (false,[.sl (.int .u8::a6f)]) p):∃ l:List (Int × Wd),p= .sl 6 (l.map b3p)∧∀ x ∈ l,0≤x.1∧x.1<256:=by
 obtain ⟨qs,e,hl,h⟩:=h
 simp only [b6e] at e
 subst e
 have k:=h 0 _ _ rfl rfl
 cases k with
 | sl w g=>
   obtain ⟨l,rfl,q⟩:=b8V (fun qs h=>c4s h) _ w g
   exact ⟨l,rfl,q⟩
set_option maxHeartbeats 1000000 in
theorem b6j (C:Laid P) (l:List (Int × Wd)):j7 P G a4a [.sl 6 (l.map b3p)] [] (.sl 6 ((l.take (60:Int).toNat).map b3p)):=by
 refine i5 C (b6Y C) rfl ?_
 repeat' ((conv=>whnf);first | (with_reducible refine sC (by kernel_rfl) ?_) | ((first | (with_reducible first | refine sB ?_ | refine o8 ?_ | refine o7 ?_) | refine sP (by rfl) ?_);first | refine oT ?_ | refine oF ?_ | (refine Or.inr (Or.inr ⟨fun hsp=>?_,fun hsp=>?_⟩) <;>(try simp only [nm] at hsp) <;>try subst hsp)) | refine sS (c0W (f:=b3p) (by rfl) (by rfl) (by decide)) ?_ | fail)
 all_goals (conv=>whnf)
 all_goals (exact PV.le.refl _)
set_option maxHeartbeats 1000000 in
theorem b7F (C:Laid P):j7 P G a6j [] [] (.sl 1 (b7e.map fun x=>[PV.str x])):=by
 refine i5 C (b8m C) rfl ?_
 repeat' ((conv=>whnf);first | (with_reducible refine sC (by kernel_rfl) ?_) | ((first | (with_reducible first | refine sB ?_ | refine o8 ?_ | refine o7 ?_) | refine sP (by rfl) ?_);first | refine oT ?_ | refine oF ?_ | (refine Or.inr (Or.inr ⟨fun hsp=>?_,fun hsp=>?_⟩) <;>(try simp only [nm] at hsp) <;>try subst hsp)) | fail)
 all_goals (conv=>whnf)
 all_goals (exact PV.le.refl _)
def c6v (x:List UInt8):List PV:=[PV.str x]
set_option maxHeartbeats 1000000 in
theorem c1u (C:Laid P) (l:List (List UInt8)) (hl:l.length≤1000000):j7 P G C1 [.sl 1 (l.map c6v),.sl 1 (l.map c6v)] [] (.bool true):=by
 refine i5 C (a6A C) rfl ?_
 repeat' ((conv=>whnf);first | (with_reducible refine sC (by kernel_rfl) ?_) | ((first | (with_reducible first | refine sB ?_ | refine o8 ?_ | refine o7 ?_) | refine sP (by rfl) ?_);first | refine Or.inl ⟨by first | assumption | (simp only [nm,beq_self_eq_true,Bool.and_self,Bool.and_true,List.length_map];first | done | assumption | omega),?_⟩ | refine Or.inr (Or.inl ⟨by first | assumption | (simp only [nm,beq_self_eq_true,Bool.and_self,Bool.and_true,List.length_map];first | done | assumption | omega),?_⟩) | (refine Or.inr (Or.inr ⟨fun hsp=>?_,fun hsp=>?_⟩) <;>(try simp only [nm,beq_self_eq_true,Bool.and_self,Bool.and_true,List.length_map] at hsp) <;>try subst hsp)) | fail)
 all_goals (conv=>whnf)
 intro X hX hW
 refine a2x hX (fun st (i:Nat)=>st.upd [(13,.pv (pI (i:Int)))] []) (fun i k=>i+k=l.length) 0 l.length (by (conv=>whnf);first | done | rfl) (by omega) ?_
 intro m i ih hI
 rcases a0E l i with ⟨x,hlt,hx⟩ | hge
 ·have hrow:=y2 (f:=c6v) hx
  repeat' ((conv=>whnf);first | (with_reducible refine sC (by kernel_rfl) ?_) | ((first | (with_reducible first | refine sB ?_ | refine o8 ?_ | refine o7 ?_) | refine sP (by rfl) ?_);first | refine Or.inl ⟨by first | assumption | (simp only [nm,beq_self_eq_true,Bool.and_self,Bool.and_true,List.length_map];first | done | assumption | omega),?_⟩ | refine Or.inr (Or.inl ⟨by first | assumption | (simp only [nm,beq_self_eq_true,Bool.and_self,Bool.and_true,List.length_map];first | done | assumption | omega),?_⟩) | (refine Or.inr (Or.inr ⟨fun hsp=>?_,fun hsp=>?_⟩) <;>(try simp only [nm,beq_self_eq_true,Bool.and_self,Bool.and_true,List.length_map] at hsp) <;>try subst hsp)) | refine sS (e7 (by rfl) (by rfl) (by omega) hrow) ?_ | fail)
  all_goals (conv=>whnf)
  all_goals (refine ih (m - 1) (i+1) _ (by omega) (by omega) (by (conv=>whnf);first | done | rfl | (simp (disch:=omega) only [p9])))
 ·repeat' ((conv=>whnf);first | (with_reducible refine sC (by kernel_rfl) ?_) | ((first | (with_reducible first | refine sB ?_ | refine o8 ?_ | refine o7 ?_) | refine sP (by rfl) ?_);first | refine Or.inl ⟨by first | assumption | (simp only [nm,beq_self_eq_true,Bool.and_self,Bool.and_true,List.length_map];first | done | assumption | omega),?_⟩ | refine Or.inr (Or.inl ⟨by first | assumption | (simp only [nm,beq_self_eq_true,Bool.and_self,Bool.and_true,List.length_map];first | done | assumption | omega),?_⟩) | (refine Or.inr (Or.inr ⟨fun hsp=>?_,fun hsp=>?_⟩) <;>(try simp only [nm,beq_self_eq_true,Bool.and_self,Bool.and_true,List.length_map] at hsp) <;>try subst hsp)) | fail)
  all_goals (conv=>whnf)
  all_goals (exact PV.le.refl _)
theorem b5T (C:Laid P):j7 P G C1 [.sl 1 (b7e.map fun x=>[PV.str x]),.sl 1 (b7e.map fun x=>[PV.str x])] [] (.bool true):=c1u C b7e (by decide)
end Go.Ab.Td

/- A part of the proof: the texts TdRv0, TdSk. Under: nothing. -/
import Derived.Test.YtngmifmcohmfmaaDoorG43
import Derived.Test.YtngmifmcohmfmaaDoorG12
import Derived.Test.YtngmifmcohmfmaaDoorG31
import Derived.Test.YtngmifmcohmfmaaDoorG47
import Derived.Test.YtngmifmcohmfmaaDoorG27
import Derived.Test.YtngmifmcohmfmaaDoorG23
import Derived.Test.YtngmifmcohmfmaaDoorG25
set_option linter.unusedVariables false
namespace Go.Ab.Td
set_option maxRecDepth 100000
set_option maxRecDepth 100000
open Go Go.Ab
variable {P:Program}
set_option linter.unusedSimpArgs false
attribute [local irreducible] f0
theorem c0O (C:Laid P):j5 P G k7 [.sl 7 (List.map g8 [])] [(0,0)] (.sl 7 (List.map g8 [])):=by
 refine b8F C.mixed (H2 C) (ext:=noX) (fun _ _ h=>by cases h) (tab:=noT) (w9:=noT) (d:=0) (fun _ _ h=>by cases h) (fun _ _ h=>by cases h) rfl ?_
 conv=>whnf
 refine ⟨?_,?_⟩
 repeat' ((conv=>whnf);first | (with_reducible refine sC (by kernel_rfl) ?_) | ((first | (with_reducible first | refine sB ?_ | refine p8 ?_ | refine p9 ?_) | refine sP (by rfl) ?_);first | refine oT ?_ | refine oF ?_ | (refine Or.inr (Or.inr ⟨fun hsp=>?_,fun hsp=>?_⟩) <;>(try simp only [nm] at hsp) <;>try subst hsp)) | refine sS (u5 (by rfl) (by first | exact d7 | exact b8 | exact b9 (by rfl) (by rfl)) (by rfl) (by (try simp only [ln]);omega)) ?_ | refine sS (u5 (f:=g8) (x':=[⟨_,_,_,_,_,_,_⟩]) (by rfl) (by first | exact d7 | exact b8 | exact b9 (by rfl) (by rfl)) (by rfl) (by (try simp only [ln]);omega)) ?_ | refine sS (u5 (f:=j6) (x':=[⟨_,_,_,_,_,_,_⟩]) (by rfl) (by first | exact d7 | exact b8 | exact b9 (by rfl) (by rfl)) (by rfl) (by (try simp only [ln]);omega)) ?_ | refine sS (j2 (by rfl) (by rfl) (by (try simp only [ln]);omega) (by first | exact d7 | exact b8 | exact b9 (by rfl) (by rfl)) (by rfl) (by (try simp only [ln]);omega)) ?_ | refine sS (j2 (f:=g8) (x':=[⟨_,_,_,_,_,_,_⟩]) (by rfl) (by rfl) (by (try simp only [ln]);omega) (by first | exact d7 | exact b8 | exact b9 (by rfl) (by rfl)) (by rfl) (by (try simp only [ln]);omega)) ?_ | refine sS (j2 (f:=j6) (x':=[⟨_,_,_,_,_,_,_⟩]) (by rfl) (by rfl) (by (try simp only [ln]);omega) (by first | exact d7 | exact b8 | exact b9 (by rfl) (by rfl)) (by rfl) (by (try simp only [ln]);omega)) ?_ | refine sS (k8 (by rfl) (by first | exact d7 | exact b8 | exact b9 (by rfl) (by rfl)) (by rfl) (by (try simp only [ln]);omega)) ?_ | refine sS (k8 (f:=g8) (x':=[⟨_,_,_,_,_,_,_⟩]) (by rfl) (by first | exact d7 | exact b8 | exact b9 (by rfl) (by rfl)) (by rfl) (by (try simp only [ln]);omega)) ?_ | refine sS (k8 (f:=j6) (x':=[⟨_,_,_,_,_,_,_⟩]) (by rfl) (by first | exact d7 | exact b8 | exact b9 (by rfl) (by rfl)) (by rfl) (by (try simp only [ln]);omega)) ?_ | refine sS (a1h (by rfl) (by rfl) (by rfl) (by rfl) (by (try simp only [ln]);omega) (by (try simp only [ln]);omega) (by first | rfl | ((try simp only [ln]);omega)) (by (try simp only [ln]);omega)) ?_ | refine sS (Q4 (by rfl) (by rfl) (by rfl) (by (try simp only [ln]);omega) (by (try simp only [ln]);omega) (by (try simp only [ln]);omega)) ?_ | refine sS (a3P (by rfl) (by rfl) (by rfl) (by (try simp only [ln]);omega) (by (try simp only [ln]);omega) (by (try simp only [ln]);omega)) ?_ | refine sS (W7 (by rfl) (by rfl) (by rfl) (by (try simp only [ln]);omega) (by (try simp only [ln]);omega) (by (try simp only [ln]);omega)) ?_ | refine sS (e7 (by rfl) (by rfl) (by omega) (L9 (d:=cl0) (by omega) (by omega))) ?_ | refine sS (e7 (by rfl) (by rfl) (by omega) (L9 (d:=ob0) (by omega) (by omega))) ?_ | refine sS (a1g (by rfl) (by rfl) (by omega)) ?_ | refine sS (a4M (by rfl) (by rfl) (by omega)) ?_ | fail)
 all_goals (conv=>whnf)
 ·exact ⟨_,rfl,.inr ⟨7,rfl⟩⟩
 ·exact ⟨_,rfl,.inl ⟨20,[],rfl,rfl⟩⟩
theorem b0P (C:Laid P) (l:List Ob) (hl:l.length≤1000000):j5 P G k7 [.sl 7 (List.map g8 l)] [(0,0)] (.sl 7 (List.map g8 l)):=by
 cases l with
 | nil=>exact c0O C
 | cons x l=>exact c3a C x l (by simp at hl;omega)
end Go.Ab.Td
namespace Go.Ab.Td
set_option maxRecDepth 100000
set_option maxRecDepth 100000
open Go Go.Ab
variable {P:Program}
set_option linter.unusedSimpArgs false
attribute [local irreducible] f0
set_option maxHeartbeats 1000000 in
theorem a8o (C:Laid P) (l:List Ob) (hl:l.length≤1000000):j5 P G m7 [.sl 7 (List.map g8 l),.sl 7 (List.map g8 l)] [] (.bool true):=by
 refine i5 C (a0p C) rfl ?_
 repeat' ((conv=>whnf);first | (with_reducible refine sC (by kernel_rfl) ?_) | ((first | (with_reducible first | refine sB ?_ | refine p8 ?_ | refine p9 ?_) | refine sP (by rfl) ?_);first | refine Or.inl ⟨by first | assumption | (simp only [nm,beq_self_eq_true,Bool.and_self,Bool.and_true,List.length_map];first | done | assumption | omega),?_⟩ | refine Or.inr (Or.inl ⟨by first | assumption | (simp only [nm,beq_self_eq_true,Bool.and_self,Bool.and_true,List.length_map];first | done | assumption | omega),?_⟩) | (refine Or.inr (Or.inr ⟨fun hsp=>?_,fun hsp=>?_⟩) <;>(try simp only [nm,beq_self_eq_true,Bool.and_self,Bool.and_true,List.length_map] at hsp) <;>try subst hsp)) | fail)
 all_goals (conv=>whnf)
 intro X hX hW
 refine a2p hX (fun st (i:Nat)=>st.upd [(13,.pv (pI (i:Int)))] []) (fun i k=>i+k=l.length) 0 l.length (by (conv=>whnf);first | done | rfl) (by omega) ?_
 intro m i ih hI
 rcases a0t l i with ⟨x,hlt,hx⟩ | hge
 ·have hrow:=y3 (f:=g8) hx
  repeat' ((conv=>whnf);first | (with_reducible refine sC (by kernel_rfl) ?_) | ((first | (with_reducible first | refine sB ?_ | refine p8 ?_ | refine p9 ?_) | refine sP (by rfl) ?_);first | refine Or.inl ⟨by first | assumption | (simp only [nm,beq_self_eq_true,Bool.and_self,Bool.and_true,List.length_map];first | done | assumption | omega),?_⟩ | refine Or.inr (Or.inl ⟨by first | assumption | (simp only [nm,beq_self_eq_true,Bool.and_self,Bool.and_true,List.length_map];first | done | assumption | omega),?_⟩) | (refine Or.inr (Or.inr ⟨fun hsp=>?_,fun hsp=>?_⟩) <;>(try simp only [nm,beq_self_eq_true,Bool.and_self,Bool.and_true,List.length_map] at hsp) <;>try subst hsp)) | refine sS (e7 (by rfl) (by rfl) (by omega) hrow) ?_ | fail)
  all_goals (conv=>whnf)
  all_goals (refine ih (m - 1) (i+1) _ (by omega) (by omega) (by (conv=>whnf);first | done | rfl | (simp (disch:=omega) only [A0])))
 ·repeat' ((conv=>whnf);first | (with_reducible refine sC (by kernel_rfl) ?_) | ((first | (with_reducible first | refine sB ?_ | refine p8 ?_ | refine p9 ?_) | refine sP (by rfl) ?_);first | refine Or.inl ⟨by first | assumption | (simp only [nm,beq_self_eq_true,Bool.and_self,Bool.and_true,List.length_map];first | done | assumption | omega),?_⟩ | refine Or.inr (Or.inl ⟨by first | assumption | (simp only [nm,beq_self_eq_true,Bool.and_self,Bool.and_true,List.length_map];first | done | assumption | omega),?_⟩) | (refine Or.inr (Or.inr ⟨fun hsp=>?_,fun hsp=>?_⟩) <;>(try simp only [nm,beq_self_eq_true,Bool.and_self,Bool.and_true,List.length_map] at hsp) <;>try subst hsp)) | fail)
  all_goals (conv=>whnf)
  all_goals (exact PV.le.refl _)
end Go.Ab.Td

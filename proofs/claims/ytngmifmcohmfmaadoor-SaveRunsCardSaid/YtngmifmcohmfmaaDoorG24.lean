/- A part of the proof: the texts TdSe, TdUf, TdUg, TdUh, TdUi, TdUj. Under: nothing. -/
import Derived.Test.YtngmifmcohmfmaaDoorG07
import Derived.Test.YtngmifmcohmfmaaDoorG05
import Derived.Test.YtngmifmcohmfmaaDoorG23
namespace Go.Ab.Td
set_option maxRecDepth 100000
set_option maxRecDepth 100000
open Go Go.Ab
variable {P:Program}
set_option linter.unusedSimpArgs false
attribute [local irreducible] f0
set_option maxHeartbeats 8000000 in
theorem a3y (C:Laid P) (s t:F2) (e:Int) (hr:j7 P G w6 [aS s] [] (.x8 [aS t,pI e])):j7 P G G2 [aS s,.str [115,97,118,101]] [] (.x8 [aS t,pI e]):=by
 refine i5 C (a7C C) rfl ?_
 repeat' ((conv=>whnf);first | (with_reducible refine sC (by kernel_rfl) ?_) | ((first | (with_reducible first | refine sB ?_ | refine o8 ?_ | refine o7 ?_) | refine sP (by rfl) ?_);first | refine oT ?_ | refine oF ?_ | (refine Or.inr (Or.inr ⟨fun hsp=>?_,fun hsp=>?_⟩) <;>(try simp only [nm] at hsp) <;>try subst hsp)) | refine ⟨_,_,hr,?_⟩ | fail)
 all_goals (conv=>whnf)
 all_goals (exact PV.le.refl _)
set_option maxHeartbeats 8000000 in
theorem E0 (C:Laid P) (s t:F2) (e:Int) (hr:j7 P G j8 [aS s] [] (.x8 [aS t,pI e])):j7 P G G2 [aS s,.str [114,101,115,116,111,114,101]] [] (.x8 [aS t,pI e]):=by
 refine i5 C (a7C C) rfl ?_
 repeat' ((conv=>whnf);first | (with_reducible refine sC (by kernel_rfl) ?_) | ((first | (with_reducible first | refine sB ?_ | refine o8 ?_ | refine o7 ?_) | refine sP (by rfl) ?_);first | refine oT ?_ | refine oF ?_ | (refine Or.inr (Or.inr ⟨fun hsp=>?_,fun hsp=>?_⟩) <;>(try simp only [nm] at hsp) <;>try subst hsp)) | refine ⟨_,_,hr,?_⟩ | fail)
 all_goals (conv=>whnf)
 all_goals (exact PV.le.refl _)
end Go.Ab.Td
namespace Go.Ab.Td
set_option maxRecDepth 100000
set_option maxRecDepth 100000
open Go Go.Ab
variable {P:Program}
set_option linter.unusedSimpArgs false
attribute [local irreducible] f0
def vmL (s:F2):List Ob:=[⟨3,false,(s.f3.length:Int),[],0,0,0⟩,⟨3,false,o0 0 s.heap,[],0,0,0⟩,⟨3,false,20000,[],0,0,0⟩]
set_option maxHeartbeats 4000000 in
theorem a9P (C:Laid P) (s:F2) (l:List Ob) (hl:100<s.ops.length+l.length) (h1:s.ops.length≤1000) (h2:l.length≤1000):j7 P G D1 [aS s,.sl 7 (List.map i6 l)] [] (.x8 [aS s,pI 21]):=by
 refine i5 C (a2P C) rfl ?_
 have hw:IntKind.i64.wrap ((s.ops.length:Int)+l.length)=(s.ops.length:Int)+l.length:=wrap_small (by omega) (by omega)
 repeat' ((conv=>whnf);first | (with_reducible refine sC (by kernel_rfl) ?_) | ((first | (with_reducible first | refine sB ?_ | refine o8 ?_ | refine o7 ?_) | refine sP (by rfl) ?_);first | refine Or.inl ⟨by first | assumption | (simp only [nm,List.length_map,hw];first | done | assumption | omega),?_⟩ | refine Or.inr (Or.inl ⟨by first | assumption | (simp only [nm,List.length_map,hw];first | done | assumption | omega),?_⟩) | (refine Or.inr (Or.inr ⟨fun hsp=>?_,fun hsp=>?_⟩) <;>(try simp only [nm,List.length_map,hw] at hsp) <;>try subst hsp)) | fail)
 all_goals (conv=>whnf)
 all_goals (first | exact PV.le.refl _ | (exfalso;omega) | ((repeat' (first | (with_reducible exact PV.le.refl _) | exact PV.le.emp _ | exact H8.nil | (with_reducible refine v3 ?_) | (with_reducible refine o6 ?_) | (refine H8.cons ?_ ?_) | (with_reducible refine k7 ?_) | (with_reducible refine w8 ?_) | (with_reducible refine z6 ?_) | (with_reducible refine x6 ?_) | (with_reducible refine r9 ?_) | (refine z9 ?_))) <;>(first | rfl | exact PV.le.refl _ | (simp;done) | (refine le_of_eq ?_;simp;done))))
set_option maxHeartbeats 4000000 in
theorem a6w (C:Laid P) (s:F2) (l:List Ob) (hl:100<s.ops.length+l.length) (h1:s.ops.length≤1000) (h2:l.length≤1000):j7 P G s9 [aS s,pI 0,.sl 7 (List.map i6 l)] [] (.x8 [aS s,pI 21]):=by
 refine i5 C (a6x C) rfl ?_
 have hw0:IntKind.i64.wrap ((s.ops.length:Int) - 0)=(s.ops.length:Int):=by rw [wrap_small (by omega) (by omega)];omega
 have hw:IntKind.i64.wrap ((s.ops.length:Int)+l.length)=(s.ops.length:Int)+l.length:=wrap_small (by omega) (by omega)
 repeat' ((conv=>whnf);first | (with_reducible refine sC (by kernel_rfl) ?_) | ((first | (with_reducible first | refine sB ?_ | refine o8 ?_ | refine o7 ?_) | refine sP (by rfl) ?_);first | refine Or.inl ⟨by first | assumption | (simp only [nm,List.length_map,hw0,hw];first | done | assumption | omega),?_⟩ | refine Or.inr (Or.inl ⟨by first | assumption | (simp only [nm,List.length_map,hw0,hw];first | done | assumption | omega),?_⟩) | (refine Or.inr (Or.inr ⟨fun hsp=>?_,fun hsp=>?_⟩) <;>(try simp only [nm,List.length_map,hw0,hw] at hsp) <;>try subst hsp)) | fail)
 all_goals (conv=>whnf)
 all_goals (first | exact PV.le.refl _ | (exfalso;omega) | ((repeat' (first | (with_reducible exact PV.le.refl _) | exact PV.le.emp _ | exact H8.nil | (with_reducible refine v3 ?_) | (with_reducible refine o6 ?_) | (refine H8.cons ?_ ?_) | (with_reducible refine k7 ?_) | (with_reducible refine w8 ?_) | (with_reducible refine z6 ?_) | (with_reducible refine x6 ?_) | (with_reducible refine r9 ?_) | (refine z9 ?_))) <;>(first | rfl | exact PV.le.refl _ | (simp;done) | (refine le_of_eq ?_;simp;done))))
set_option maxHeartbeats 8000000 in
theorem c7H (C:Laid P) (s:F2) (hh:s.heap.length≤1000) (ho:s.ops.length≤97):j7 P G q8 [aS s] [] (.x8 [aS {s with ops:=s.ops++vmL s},pI 0]):=by
 refine i5 C (O3 C) rfl ?_
 have kP:=a7U C s (vmL s) (by show s.ops.length+3≤100;omega)
 repeat' ((conv=>whnf);first | (with_reducible refine sC (by kernel_rfl) ?_) | ((first | (with_reducible first | refine sB ?_ | refine o8 ?_ | refine o7 ?_) | refine sP (by rfl) ?_);first | refine oT ?_ | refine oF ?_ | (refine Or.inr (Or.inr ⟨fun hsp=>?_,fun hsp=>?_⟩) <;>(try simp only [nm,List.length_map] at hsp) <;>try subst hsp)) | refine ⟨_,_,a1S C s.heap (by omega),?_⟩ | refine ⟨_,_,kP,?_⟩ | refine sS (n9 (f:=i6) (x':=[⟨_,_,_,_,_,_,_⟩]) (by rfl) (by first | exact e8 | exact d8 | exact d9 (by rfl) (by rfl)) (by rfl) (by (try simp only [ln]);omega)) ?_ | refine sS (m6 (f:=i6) (x':=[⟨_,_,_,_,_,_,_⟩]) (by rfl) (by rfl) (by first | rfl | simp) (by first | exact e8 | exact d8 | exact d9 (by rfl) (by rfl)) (by rfl) (by (try simp only [ln]);omega)) ?_ | (intro X hX hW) | refine hX _ ?_ | fail)
 all_goals (conv=>whnf)
 all_goals (first | exact PV.le.refl _ | (exfalso;omega) | ((repeat' (first | (with_reducible exact PV.le.refl _) | exact PV.le.emp _ | exact H8.nil | (with_reducible refine v3 ?_) | (with_reducible refine o6 ?_) | (refine H8.cons ?_ ?_) | (with_reducible refine k7 ?_) | (with_reducible refine w8 ?_) | (with_reducible refine z6 ?_) | (with_reducible refine x6 ?_) | (with_reducible refine r9 ?_) | (refine z9 ?_))) <;>(first | rfl | exact PV.le.refl _ | (simp;done) | (refine le_of_eq ?_;simp;done))))
set_option maxHeartbeats 8000000 in
theorem b8O (C:Laid P) (s:F2) (hh:s.heap.length≤1000) (ho:97<s.ops.length) (h1:s.ops.length≤1000):j7 P G q8 [aS s] [] (.x8 [aS s,pI 21]):=by
 refine i5 C (O3 C) rfl ?_
 have kP:=a9P C s (vmL s) (by show 100<s.ops.length+3;omega) h1 (by show 3≤1000;decide)
 repeat' ((conv=>whnf);first | (with_reducible refine sC (by kernel_rfl) ?_) | ((first | (with_reducible first | refine sB ?_ | refine o8 ?_ | refine o7 ?_) | refine sP (by rfl) ?_);first | refine oT ?_ | refine oF ?_ | (refine Or.inr (Or.inr ⟨fun hsp=>?_,fun hsp=>?_⟩) <;>(try simp only [nm,List.length_map] at hsp) <;>try subst hsp)) | refine ⟨_,_,a1S C s.heap (by omega),?_⟩ | refine ⟨_,_,kP,?_⟩ | refine sS (n9 (f:=i6) (x':=[⟨_,_,_,_,_,_,_⟩]) (by rfl) (by first | exact e8 | exact d8 | exact d9 (by rfl) (by rfl)) (by rfl) (by (try simp only [ln]);omega)) ?_ | refine sS (m6 (f:=i6) (x':=[⟨_,_,_,_,_,_,_⟩]) (by rfl) (by rfl) (by first | rfl | simp) (by first | exact e8 | exact d8 | exact d9 (by rfl) (by rfl)) (by rfl) (by (try simp only [ln]);omega)) ?_ | (intro X hX hW) | refine hX _ ?_ | fail)
 all_goals (conv=>whnf)
 all_goals (first | exact PV.le.refl _ | (exfalso;omega) | ((repeat' (first | (with_reducible exact PV.le.refl _) | exact PV.le.emp _ | exact H8.nil | (with_reducible refine v3 ?_) | (with_reducible refine o6 ?_) | (refine H8.cons ?_ ?_) | (with_reducible refine k7 ?_) | (with_reducible refine w8 ?_) | (with_reducible refine z6 ?_) | (with_reducible refine x6 ?_) | (with_reducible refine r9 ?_) | (refine z9 ?_))) <;>(first | rfl | exact PV.le.refl _ | (simp;done) | (refine le_of_eq ?_;simp;done))))
end Go.Ab.Td
namespace Go.Ab.Td
set_option maxRecDepth 100000
set_option maxRecDepth 100000
open Go Go.Ab
variable {P:Program}
set_option linter.unusedSimpArgs false
attribute [local irreducible] f0
set_option maxHeartbeats 8000000 in
theorem c1E (C:Laid P) (s:F2) (hh:s.heap.length≤1000) (ho:s.ops.length≤97):j7 P G A0 [aS s,.str [118,109,115,116,97,116,117,115]] [] (.x8 [aS {s with ops:=s.ops++vmL s},pI 0]):=by
 refine i5 C (G8 C) rfl ?_
 have kP:=F9 C s 0 (vmL s) (by decide) (by omega) (by show (s.ops.length:Int) - 0+((3:Nat):Int)≤100;omega) (by omega) (by show 3≤1000000;decide)
 rw [show s.ops.take (s.ops.length - (0:Int).toNat)=s.ops by simp] at kP
 repeat' ((conv=>whnf);first | (with_reducible refine sC (by kernel_rfl) ?_) | ((first | (with_reducible first | refine sB ?_ | refine o8 ?_ | refine o7 ?_) | refine sP (by rfl) ?_);first | refine oT ?_ | refine oF ?_ | (refine Or.inr (Or.inr ⟨fun hsp=>?_,fun hsp=>?_⟩) <;>(try simp only [nm,List.length_map] at hsp) <;>try subst hsp)) | refine ⟨_,_,a9N C _,?_⟩ | refine ⟨_,_,a7p C s.heap (by omega),?_⟩ | refine ⟨_,_,kP,?_⟩ | fail)
 all_goals (conv=>whnf)
 all_goals (first | exact PV.le.refl _ | (exfalso;omega) | ((repeat' (first | (with_reducible exact PV.le.refl _) | exact PV.le.emp _ | exact H8.nil | (with_reducible refine v3 ?_) | (with_reducible refine o6 ?_) | (refine H8.cons ?_ ?_) | (with_reducible refine k7 ?_) | (with_reducible refine w8 ?_) | (with_reducible refine z6 ?_) | (with_reducible refine x6 ?_) | (with_reducible refine r9 ?_) | (refine z9 ?_))) <;>(first | rfl | exact PV.le.refl _ | (simp;done) | (refine le_of_eq ?_;simp;done))))
set_option maxHeartbeats 8000000 in
theorem b3A (C:Laid P) (s:F2) (hh:s.heap.length≤1000) (ho:97<s.ops.length) (h1:s.ops.length≤1000):j7 P G A0 [aS s,.str [118,109,115,116,97,116,117,115]] [] (.x8 [aS s,pI 21]):=by
 refine i5 C (G8 C) rfl ?_
 have kP:=a6w C s (vmL s) (by show 100<s.ops.length+3;omega) h1 (by show 3≤1000;decide)
 repeat' ((conv=>whnf);first | (with_reducible refine sC (by kernel_rfl) ?_) | ((first | (with_reducible first | refine sB ?_ | refine o8 ?_ | refine o7 ?_) | refine sP (by rfl) ?_);first | refine oT ?_ | refine oF ?_ | (refine Or.inr (Or.inr ⟨fun hsp=>?_,fun hsp=>?_⟩) <;>(try simp only [nm,List.length_map] at hsp) <;>try subst hsp)) | refine ⟨_,_,a9N C _,?_⟩ | refine ⟨_,_,a7p C s.heap (by omega),?_⟩ | refine ⟨_,_,kP,?_⟩ | fail)
 all_goals (conv=>whnf)
 all_goals (first | exact PV.le.refl _ | (exfalso;omega) | ((repeat' (first | (with_reducible exact PV.le.refl _) | exact PV.le.emp _ | exact H8.nil | (with_reducible refine v3 ?_) | (with_reducible refine o6 ?_) | (refine H8.cons ?_ ?_) | (with_reducible refine k7 ?_) | (with_reducible refine w8 ?_) | (with_reducible refine z6 ?_) | (with_reducible refine x6 ?_) | (with_reducible refine r9 ?_) | (refine z9 ?_))) <;>(first | rfl | exact PV.le.refl _ | (simp;done) | (refine le_of_eq ?_;simp;done))))
set_option maxHeartbeats 8000000 in
theorem b0n (C:Laid P) (s:F2) (l:List Sn) (ts:List F2) (hq:s.f3=l.map z7) (h62:s.f62=ts.map grO) (h3:l.length<10) (ht:ts.length<20) (ho:100≤s.ops.length) (h1:s.ops.length≤1000):j7 P G A0 [aS s,.str [115,97,118,101]] [] (.x8 [aS s,pI 21]):=by
 refine i5 C (G8 C) rfl ?_
 have hl3:s.f3.length=l.length:=by rw [hq,List.length_map]
 have hl62:s.f62.length=ts.length:=by rw [h62,List.length_map]
 have kI:=a6w C s [svO (IntKind.i64.wrap (s.f4+1))] (by simp;omega) h1 (by simp)
 repeat' ((conv=>whnf);first | (with_reducible refine sC (by kernel_rfl) ?_) | ((first | (with_reducible first | refine sB ?_ | refine o8 ?_ | refine o7 ?_) | refine sP (by rfl) ?_);first | refine Or.inl ⟨by first | assumption | (simp only [nm,List.length_map,hl3,hl62];first | done | assumption | omega),?_⟩ | refine Or.inr (Or.inl ⟨by first | assumption | (simp only [nm,List.length_map,hl3,hl62];first | done | assumption | omega),?_⟩) | (refine Or.inr (Or.inr ⟨fun hsp=>?_,fun hsp=>?_⟩) <;>(try simp only [nm,List.length_map,hl3,hl62] at hsp) <;>try subst hsp)) | refine ⟨_,_,kI,?_⟩ | fail)
 all_goals (conv=>whnf)
 all_goals (first | exact PV.le.refl _ | (exfalso;omega) | ((repeat' (first | (with_reducible exact PV.le.refl _) | exact PV.le.emp _ | exact H8.nil | (with_reducible refine v3 ?_) | (with_reducible refine o6 ?_) | (refine H8.cons ?_ ?_) | (with_reducible refine k7 ?_) | (with_reducible refine w8 ?_) | (with_reducible refine z6 ?_) | (with_reducible refine x6 ?_) | (with_reducible refine r9 ?_) | (refine z9 ?_))) <;>(first | rfl | exact PV.le.refl _ | (simp;done) | (refine le_of_eq ?_;simp;done))))
end Go.Ab.Td
namespace Go.Ab.Td
set_option maxRecDepth 100000
set_option maxRecDepth 100000
open Go Go.Ab
variable {P:Program}
set_option linter.unusedSimpArgs false
attribute [local irreducible] f0
set_option maxHeartbeats 8000000 in
theorem b6P (C:Laid P) (s:F2) (h:10≤s.f3.length∨20≤s.f62.length):j7 P G w6 [aS s] [] (.x8 [aS s,pI 26]):=by
 refine i5 C (P7 C) rfl ?_
 repeat' ((conv=>whnf);first | (with_reducible refine sC (by kernel_rfl) ?_) | ((first | (with_reducible first | refine sB ?_ | refine o8 ?_ | refine o7 ?_) | refine sP (by rfl) ?_);first | refine oT ?_ | refine oF ?_ | (refine Or.inr (Or.inr ⟨fun hsp=>?_,fun hsp=>?_⟩) <;>(try simp only [nm,List.length_map] at hsp) <;>try subst hsp)) | fail)
 all_goals (conv=>whnf)
 all_goals (first | exact PV.le.refl _ | (exfalso;omega))
set_option maxHeartbeats 8000000 in
theorem b6r (C:Laid P) (s:F2) (h3:s.f3.length<10) (ht:s.f62.length<20) (ho:100≤s.ops.length) (h1:s.ops.length≤1000):j7 P G w6 [aS s] [] (.x8 [aS s,pI 21]):=by
 refine i5 C (P7 C) rfl ?_
 have kI:=a9P C s [svO (IntKind.i64.wrap (s.f4+1))] (by simp;omega) h1 (by simp)
 repeat' ((conv=>whnf);first | (with_reducible refine sC (by kernel_rfl) ?_) | ((first | (with_reducible first | refine sB ?_ | refine o8 ?_ | refine o7 ?_) | refine sP (by rfl) ?_);first | refine oT ?_ | refine oF ?_ | (refine Or.inr (Or.inr ⟨fun hsp=>?_,fun hsp=>?_⟩) <;>(try simp only [nm,List.length_map] at hsp) <;>try subst hsp)) | refine ⟨_,_,kI,?_⟩ | fail)
 all_goals (conv=>whnf)
 all_goals (first | exact PV.le.refl _ | (exfalso;omega) | ((repeat' (first | (with_reducible exact PV.le.refl _) | exact PV.le.emp _ | exact H8.nil | (with_reducible refine v3 ?_) | (with_reducible refine o6 ?_) | (refine H8.cons ?_ ?_) | (with_reducible refine k7 ?_) | (with_reducible refine w8 ?_) | (with_reducible refine z6 ?_) | (with_reducible refine x6 ?_) | (with_reducible refine r9 ?_) | (refine z9 ?_))) <;>(first | rfl | exact PV.le.refl _ | (simp;done) | (refine le_of_eq ?_;simp;done))))
set_option maxHeartbeats 8000000 in
theorem b0h (C:Laid P) (s:F2) (h:s.ops=[]):j7 P G j8 [aS s] [] (.x8 [aS s,pI 20]):=by
 refine i5 C (u5 C) rfl ?_
 have kT:=a8K C s 1 (by decide) (by rw [h];decide)
 repeat' ((conv=>whnf);first | (with_reducible refine sC (by kernel_rfl) ?_) | ((first | (with_reducible first | refine sB ?_ | refine o8 ?_ | refine o7 ?_) | refine sP (by rfl) ?_);first | refine oT ?_ | refine oF ?_ | (refine Or.inr (Or.inr ⟨fun hsp=>?_,fun hsp=>?_⟩) <;>(try simp only [nm,List.length_map] at hsp) <;>try subst hsp)) | refine ⟨_,_,kT,?_⟩ | fail)
 all_goals (conv=>whnf)
 all_goals (first | exact PV.le.refl _ | (exfalso;omega) | ((repeat' (first | (with_reducible exact PV.le.refl _) | exact PV.le.emp _ | exact H8.nil | (with_reducible refine v3 ?_) | (with_reducible refine o6 ?_) | (refine H8.cons ?_ ?_) | (with_reducible refine k7 ?_) | (with_reducible refine w8 ?_) | (with_reducible refine z6 ?_) | (with_reducible refine x6 ?_) | (with_reducible refine r9 ?_) | (refine z9 ?_))) <;>(first | rfl | exact PV.le.refl _ | (simp;done) | (refine le_of_eq ?_;simp;done))))
set_option maxHeartbeats 8000000 in
theorem b1F (C:Laid P) (s:F2) (lo:List Ob) (o:Ob) (hop:s.ops=lo++[o]) (ho:lo.length≤1000) (hk:o.kind≠12):j7 P G j8 [aS s] [] (.x8 [aS s,pI 22]):=by
 refine i5 C (u5 C) rfl ?_
 have kT:=a1a C s 1 (by decide) (by rw [hop];simp;omega) (by rw [hop];simp;omega)
 rw [show s.ops.drop (s.ops.length - (1:Int).toNat)=[o] by rw [hop];simp] at kT
 repeat' ((conv=>whnf);first | (with_reducible refine sC (by kernel_rfl) ?_) | ((first | (with_reducible first | refine sB ?_ | refine o8 ?_ | refine o7 ?_) | refine sP (by rfl) ?_);first | refine oT ?_ | refine oF ?_ | (refine Or.inr (Or.inr ⟨fun hsp=>?_,fun hsp=>?_⟩) <;>(try simp only [nm,List.length_map] at hsp) <;>try subst hsp)) | refine ⟨_,_,kT,?_⟩ | fail)
 all_goals (conv=>whnf)
 all_goals (first | exact PV.le.refl _ | (exfalso;omega) | ((repeat' (first | (with_reducible exact PV.le.refl _) | exact PV.le.emp _ | exact H8.nil | (with_reducible refine v3 ?_) | (with_reducible refine o6 ?_) | (refine H8.cons ?_ ?_) | (with_reducible refine k7 ?_) | (with_reducible refine w8 ?_) | (with_reducible refine z6 ?_) | (with_reducible refine x6 ?_) | (with_reducible refine r9 ?_) | (refine z9 ?_))) <;>(first | rfl | exact PV.le.refl _ | (simp;done) | (refine le_of_eq ?_;simp;done))))
end Go.Ab.Td
namespace Go.Ab.Td
set_option maxRecDepth 100000
set_option maxRecDepth 100000
open Go Go.Ab
variable {P:Program}
set_option linter.unusedSimpArgs false
attribute [local irreducible] f0
set_option maxHeartbeats 8000000 in
theorem a9d (C:Laid P) (s:F2) (lo:List Ob) (o:Ob) (hop:s.ops=lo++[o]) (ho:lo.length≤1000) (l:List Sn) (hq:s.f3=l.map z7) (hl1:l.length≤1000) (n:Int) (hn:o=svO n) (hd:s.e9.length≤1000) (i:Nat) (xn:Int) (xh:List Cl) (j:Nat) (hp:plF n 0 l=(i:Int)) (hx:l[i]?=some ⟨xn,xh,(j:Int)⟩) (hnw:∃ o ∈ lo,o4 xh.length o):j7 P G j8 [aS s] [] (.x8 [aS s,pI 34]):=by
 refine i5 C (u5 C) rfl ?_
 have kT:=a1a C s 1 (by decide) (by rw [hop];simp;omega) (by rw [hop];simp;omega)
 rw [show s.ops.drop (s.ops.length - (1:Int).toNat)=[o] by rw [hop];simp] at kT
 subst hn
 have kF:=L9 C s l n hq (by omega)
 rw [hp] at kF
 have kD:=a4y C s 1 (by decide) (by rw [hop];simp;omega) (by rw [hop];simp;omega)
 rw [show s.ops.take (s.ops.length - (1:Int).toNat)=lo by rw [hop];simp] at kD
 have k1:=F8 C lo ⟨xn,xh,(j:Int)⟩ (by omega)
 have k2:=F8 C s.e9 ⟨xn,xh,(j:Int)⟩ (by omega)
 have hil:=(List.getElem?_eq_some_iff.1 hx).1
 have hl3:s.f3.length=l.length:=by rw [hq,List.length_map]
 have hrow:s.f3[(i:Int).toNat]?=some (z7 ⟨xn,xh,(j:Int)⟩):=by rw [hq];exact y2 (f:=z7) hx
 rw [show tt (∃ o ∈ lo,o4 xh.length o)=true from S7.mpr hnw] at k1
 repeat' ((conv=>whnf);first | (with_reducible refine sC (by kernel_rfl) ?_) | ((first | (with_reducible first | refine sB ?_ | refine o8 ?_ | refine o7 ?_) | refine sP (by rfl) ?_);first | refine oT ?_ | refine oF ?_ | (refine Or.inr (Or.inr ⟨fun hsp=>?_,fun hsp=>?_⟩) <;>(try simp only [nm,List.length_map] at hsp) <;>try subst hsp)) | refine ⟨_,_,kT,?_⟩ | refine ⟨_,_,kF,?_⟩ | refine ⟨_,_,kD,?_⟩ | refine ⟨_,_,k1,?_⟩ | refine ⟨_,_,k2,?_⟩ | refine sS (e7 (by rfl) (by rfl) (by omega) hrow) ?_ | fail)
 all_goals (conv=>whnf)
 all_goals (first | exact PV.le.refl _ | (exfalso;omega) | ((repeat' (first | (with_reducible exact PV.le.refl _) | exact PV.le.emp _ | exact H8.nil | (with_reducible refine v3 ?_) | (with_reducible refine o6 ?_) | (refine H8.cons ?_ ?_) | (with_reducible refine k7 ?_) | (with_reducible refine w8 ?_) | (with_reducible refine z6 ?_) | (with_reducible refine x6 ?_) | (with_reducible refine r9 ?_) | (refine z9 ?_))) <;>(first | rfl | exact PV.le.refl _ | (simp;done) | (refine le_of_eq ?_;simp;done))))
set_option maxHeartbeats 8000000 in
theorem a9J (C:Laid P) (s:F2) (lo:List Ob) (o:Ob) (hop:s.ops=lo++[o]) (ho:lo.length≤1000) (l:List Sn) (hq:s.f3=l.map z7) (hl1:l.length≤1000) (n:Int) (hn:o=svO n) (hd:s.e9.length≤1000) (i:Nat) (xn:Int) (xh:List Cl) (j:Nat) (hp:plF n 0 l=(i:Int)) (hx:l[i]?=some ⟨xn,xh,(j:Int)⟩) (hnw:¬ ∃ o ∈ lo,o4 xh.length o) (hnd:∃ o ∈ s.e9,o4 xh.length o):j7 P G j8 [aS s] [] (.x8 [aS s,pI 34]):=by
 refine i5 C (u5 C) rfl ?_
 have kT:=a1a C s 1 (by decide) (by rw [hop];simp;omega) (by rw [hop];simp;omega)
 rw [show s.ops.drop (s.ops.length - (1:Int).toNat)=[o] by rw [hop];simp] at kT
 subst hn
 have kF:=L9 C s l n hq (by omega)
 rw [hp] at kF
 have kD:=a4y C s 1 (by decide) (by rw [hop];simp;omega) (by rw [hop];simp;omega)
 rw [show s.ops.take (s.ops.length - (1:Int).toNat)=lo by rw [hop];simp] at kD
 have k1:=F8 C lo ⟨xn,xh,(j:Int)⟩ (by omega)
 have k2:=F8 C s.e9 ⟨xn,xh,(j:Int)⟩ (by omega)
 have hil:=(List.getElem?_eq_some_iff.1 hx).1
 have hl3:s.f3.length=l.length:=by rw [hq,List.length_map]
 have hrow:s.f3[(i:Int).toNat]?=some (z7 ⟨xn,xh,(j:Int)⟩):=by rw [hq];exact y2 (f:=z7) hx
 rw [show tt (∃ o ∈ lo,o4 xh.length o)=false from G6.mpr hnw] at k1
 rw [show tt (∃ o ∈ s.e9,o4 xh.length o)=true from S7.mpr hnd] at k2
 repeat' ((conv=>whnf);first | (with_reducible refine sC (by kernel_rfl) ?_) | ((first | (with_reducible first | refine sB ?_ | refine o8 ?_ | refine o7 ?_) | refine sP (by rfl) ?_);first | refine oT ?_ | refine oF ?_ | (refine Or.inr (Or.inr ⟨fun hsp=>?_,fun hsp=>?_⟩) <;>(try simp only [nm,List.length_map] at hsp) <;>try subst hsp)) | refine ⟨_,_,kT,?_⟩ | refine ⟨_,_,kF,?_⟩ | refine ⟨_,_,kD,?_⟩ | refine ⟨_,_,k1,?_⟩ | refine ⟨_,_,k2,?_⟩ | refine sS (e7 (by rfl) (by rfl) (by omega) hrow) ?_ | fail)
 all_goals (conv=>whnf)
 all_goals (first | exact PV.le.refl _ | (exfalso;omega) | ((repeat' (first | (with_reducible exact PV.le.refl _) | exact PV.le.emp _ | exact H8.nil | (with_reducible refine v3 ?_) | (with_reducible refine o6 ?_) | (refine H8.cons ?_ ?_) | (with_reducible refine k7 ?_) | (with_reducible refine w8 ?_) | (with_reducible refine z6 ?_) | (with_reducible refine x6 ?_) | (with_reducible refine r9 ?_) | (refine z9 ?_))) <;>(first | rfl | exact PV.le.refl _ | (simp;done) | (refine le_of_eq ?_;simp;done))))
end Go.Ab.Td
namespace Go.Ab.Td
set_option maxRecDepth 100000
set_option maxRecDepth 100000
open Go Go.Ab
variable {P:Program}
set_option linter.unusedSimpArgs false
attribute [local irreducible] f0
set_option maxHeartbeats 8000000 in
theorem a9o (C:Laid P) (s t:F2) (e:Int) (hr:j7 P G q8 [aS s] [] (.x8 [aS t,pI e])):j7 P G G2 [aS s,.str [118,109,115,116,97,116,117,115]] [] (.x8 [aS t,pI e]):=by
 refine i5 C (a7C C) rfl ?_
 repeat' ((conv=>whnf);first | (with_reducible refine sC (by kernel_rfl) ?_) | ((first | (with_reducible first | refine sB ?_ | refine o8 ?_ | refine o7 ?_) | refine sP (by rfl) ?_);first | refine oT ?_ | refine oF ?_ | (refine Or.inr (Or.inr ⟨fun hsp=>?_,fun hsp=>?_⟩) <;>(try simp only [nm] at hsp) <;>try subst hsp)) | refine ⟨_,_,hr,?_⟩ | fail)
 all_goals (conv=>whnf)
 all_goals (exact PV.le.refl _)
end Go.Ab.Td

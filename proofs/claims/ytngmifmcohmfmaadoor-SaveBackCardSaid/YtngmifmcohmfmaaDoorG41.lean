/- A part of the proof: the texts TdSy, TdSv. Under: nothing. -/
import Derived.Test.YtngmifmcohmfmaaDoorG39
import Derived.Test.YtngmifmcohmfmaaDoorG25
import Derived.Test.YtngmifmcohmfmaaDoorG22
import Derived.Test.YtngmifmcohmfmaaDoorG37
set_option linter.unusedVariables false
namespace Go.Ab.Td
set_option maxRecDepth 100000
set_option maxRecDepth 100000
open Go Go.Ab
variable {P:Program}
set_option linter.unusedSimpArgs false
attribute [local irreducible] e9
set_option maxHeartbeats 8000000 in
theorem b3y (C:Laid P) (s:v9) (w K A B N:Int) (S:List UInt8) (o:Ob) (ko:j4 P G e8 [D4 K A B N S,.sl 7 (List.map j8 s.heap)] [] (aO o)) (hw:w.tmod 8=6) (hs:small s.heap) (on:o.n<9223372036854775808) (hk:o.kind=6) (hl:0<o.len) (hv:a9p s.heap o [6]=0) (hr:a2M o 0 ([122]:List UInt8).length=0):j4 P G i7 [.agg [.int .u8 w,.int .u8 K,.int .u8 A,.int .u8 B,.int .i32 N,.str S],aS s] [] (aS {s with heap:=a5H s.heap o 0 [122]}):=by
 refine i5 C (k8 C) rfl ?_
 repeat' ((conv=>whnf);first | (with_reducible refine sC (by kernel_rfl) ?_) | ((first | (with_reducible first | refine sB ?_ | refine o5 ?_ | refine o6 ?_) | refine sP (by rfl) ?_);first | refine Or.inl ⟨by first | assumption | (simp only [nm,List.length_map,hw,hk];first | done | assumption | omega),?_⟩ | refine Or.inr (Or.inl ⟨by first | assumption | (simp only [nm,List.length_map,hw,hk];first | done | assumption | omega),?_⟩) | (refine Or.inr (Or.inr ⟨fun hsp=>?_,fun hsp=>?_⟩) <;>(try simp only [nm,List.length_map,hw,hk] at hsp) <;>try subst hsp)) | refine ⟨_,_,ko,?_⟩ | refine ⟨_,_,b0l C s.heap o hs on 0 [122] (by simp) hv hr,?_⟩ | fail)
 all_goals (conv=>whnf)
 all_goals (first | exact PV.le.refl _ | (exfalso;omega) | ((repeat' (first | (with_reducible exact PV.le.refl _) | exact PV.le.emp _ | exact I3.nil | (with_reducible refine w5 ?_) | (with_reducible refine p8 ?_) | (refine I3.cons ?_ ?_) | (with_reducible refine j9 ?_) | (with_reducible refine x8 ?_) | (with_reducible refine A0 ?_) | (with_reducible refine y3 ?_) | (with_reducible refine q9 ?_) | (refine A3 ?_))) <;>(first | rfl | exact PV.le.refl _ | (simp;done) | (refine le_of_eq ?_;simp;done))))
set_option maxHeartbeats 8000000 in
theorem b3A (C:Laid P) (s:v9) (w K A B N:Int) (S:List UInt8) (o:Ob) (ko:j4 P G e8 [D4 K A B N S,.sl 7 (List.map j8 s.heap)] [] (aO o)) (hw:w.tmod 8=6) (hs:small s.heap) (on:o.n<9223372036854775808) (hk:o.kind=7) (hl:0<o.len) (hv:a9p s.heap o [7,8]=0) (hr:a2M o 0 ([o]:List Ob).length=0):j4 P G i7 [.agg [.int .u8 w,.int .u8 K,.int .u8 A,.int .u8 B,.int .i32 N,.str S],aS s] [] (aS {s with heap:=a5I s.heap o 0 [o]}):=by
 refine i5 C (k8 C) rfl ?_
 repeat' ((conv=>whnf);first | (with_reducible refine sC (by kernel_rfl) ?_) | ((first | (with_reducible first | refine sB ?_ | refine o5 ?_ | refine o6 ?_) | refine sP (by rfl) ?_);first | refine Or.inl ⟨by first | assumption | (simp only [nm,List.length_map,hw,hk];first | done | assumption | omega),?_⟩ | refine Or.inr (Or.inl ⟨by first | assumption | (simp only [nm,List.length_map,hw,hk];first | done | assumption | omega),?_⟩) | (refine Or.inr (Or.inr ⟨fun hsp=>?_,fun hsp=>?_⟩) <;>(try simp only [nm,List.length_map,hw,hk] at hsp) <;>try subst hsp)) | refine ⟨_,_,ko,?_⟩ | refine ⟨_,_,b0m C s.heap o hs on 0 [o] (by simp) hv hr,?_⟩ | fail)
 all_goals (conv=>whnf)
 all_goals (first | exact PV.le.refl _ | (exfalso;omega) | ((repeat' (first | (with_reducible exact PV.le.refl _) | exact PV.le.emp _ | exact I3.nil | (with_reducible refine w5 ?_) | (with_reducible refine p8 ?_) | (refine I3.cons ?_ ?_) | (with_reducible refine j9 ?_) | (with_reducible refine x8 ?_) | (with_reducible refine A0 ?_) | (with_reducible refine y3 ?_) | (with_reducible refine q9 ?_) | (refine A3 ?_))) <;>(first | rfl | exact PV.le.refl _ | (simp;done) | (refine le_of_eq ?_;simp;done))))
set_option maxHeartbeats 8000000 in
theorem b3D (C:Laid P) (s:v9) (w K A B N:Int) (S:List UInt8) (o:Ob) (ko:j4 P G e8 [D4 K A B N S,.sl 7 (List.map j8 s.heap)] [] (aO o)) (hw:w.tmod 8=6) (hs:small s.heap) (on:o.n<9223372036854775808) (hk:o.kind=9) (h0:0≤o.ref) (h1:o.ref<s.heap.length) (c:Cl) (hp:a2L (cellAt s.heap o) (nmO [110,101,119]) o=some c):j4 P G i7 [.agg [.int .u8 w,.int .u8 K,.int .u8 A,.int .u8 B,.int .i32 N,.str S],aS s] [] (aS {s with heap:=s.heap.set o.ref.toNat c}):=by
 refine i5 C (k8 C) rfl ?_
 repeat' ((conv=>whnf);first | (with_reducible refine sC (by kernel_rfl) ?_) | ((first | (with_reducible first | refine sB ?_ | refine o5 ?_ | refine o6 ?_) | refine sP (by rfl) ?_);first | refine Or.inl ⟨by first | assumption | (simp only [nm,List.length_map,hw,hk];first | done | assumption | omega),?_⟩ | refine Or.inr (Or.inl ⟨by first | assumption | (simp only [nm,List.length_map,hw,hk];first | done | assumption | omega),?_⟩) | (refine Or.inr (Or.inr ⟨fun hsp=>?_,fun hsp=>?_⟩) <;>(try simp only [nm,List.length_map,hw,hk] at hsp) <;>try subst hsp)) | refine ⟨_,_,ko,?_⟩ | refine ⟨_,_,b3J C s.heap o (nmO [110,101,119]) o c h0 h1 hs hp,?_⟩ | fail)
 all_goals (conv=>whnf)
 all_goals (first | exact PV.le.refl _ | (exfalso;omega) | ((repeat' (first | (with_reducible exact PV.le.refl _) | exact PV.le.emp _ | exact I3.nil | (with_reducible refine w5 ?_) | (with_reducible refine p8 ?_) | (refine I3.cons ?_ ?_) | (with_reducible refine j9 ?_) | (with_reducible refine x8 ?_) | (with_reducible refine A0 ?_) | (with_reducible refine y3 ?_) | (with_reducible refine q9 ?_) | (refine A3 ?_))) <;>(first | rfl | exact PV.le.refl _ | (simp;done) | (refine le_of_eq ?_;simp;done))))
set_option maxHeartbeats 8000000 in
theorem b1h (C:Laid P) (s:v9) (w K A B N:Int) (S:List UInt8) (o:Ob) (ko:j4 P G e8 [D4 K A B N S,.sl 7 (List.map j8 s.heap)] [] (aO o)) (hw:w.tmod 8=6) (hs:small s.heap) (on:o.n<9223372036854775808) (hk:o.kind=9) (h0:0≤o.ref) (h1:o.ref<s.heap.length) (hp:a2L (cellAt s.heap o) (nmO [110,101,119]) o=none):j4 P G i7 [.agg [.int .u8 w,.int .u8 K,.int .u8 A,.int .u8 B,.int .i32 N,.str S],aS s] [] (aS s):=by
 refine i5 C (k8 C) rfl ?_
 repeat' ((conv=>whnf);first | (with_reducible refine sC (by kernel_rfl) ?_) | ((first | (with_reducible first | refine sB ?_ | refine o5 ?_ | refine o6 ?_) | refine sP (by rfl) ?_);first | refine Or.inl ⟨by first | assumption | (simp only [nm,List.length_map,hw,hk];first | done | assumption | omega),?_⟩ | refine Or.inr (Or.inl ⟨by first | assumption | (simp only [nm,List.length_map,hw,hk];first | done | assumption | omega),?_⟩) | (refine Or.inr (Or.inr ⟨fun hsp=>?_,fun hsp=>?_⟩) <;>(try simp only [nm,List.length_map,hw,hk] at hsp) <;>try subst hsp)) | refine ⟨_,_,ko,?_⟩ | refine ⟨_,_,a8f C s.heap o (nmO [110,101,119]) o h0 h1 hs hp,?_⟩ | fail)
 all_goals (conv=>whnf)
 all_goals (first | exact PV.le.refl _ | (exfalso;omega) | ((repeat' (first | (with_reducible exact PV.le.refl _) | exact PV.le.emp _ | exact I3.nil | (with_reducible refine w5 ?_) | (with_reducible refine p8 ?_) | (refine I3.cons ?_ ?_) | (with_reducible refine j9 ?_) | (with_reducible refine x8 ?_) | (with_reducible refine A0 ?_) | (with_reducible refine y3 ?_) | (with_reducible refine q9 ?_) | (refine A3 ?_))) <;>(first | rfl | exact PV.le.refl _ | (simp;done) | (refine le_of_eq ?_;simp;done))))
set_option maxHeartbeats 8000000 in
theorem b3C (C:Laid P) (s:v9) (w K A B N:Int) (S:List UInt8) (o:Ob) (ko:j4 P G e8 [D4 K A B N S,.sl 7 (List.map j8 s.heap)] [] (aO o)) (hw:w.tmod 8=6) (h6:o.kind=6→¬ 0<o.len) (h7:o.kind=7→¬ 0<o.len) (h9:o.kind≠9):j4 P G i7 [.agg [.int .u8 w,.int .u8 K,.int .u8 A,.int .u8 B,.int .i32 N,.str S],aS s] [] (aS s):=by
 refine i5 C (k8 C) rfl ?_
 repeat' ((conv=>whnf);first | (with_reducible refine sC (by kernel_rfl) ?_) | ((first | (with_reducible first | refine sB ?_ | refine o5 ?_ | refine o6 ?_) | refine sP (by rfl) ?_);first | refine Or.inl ⟨by first | assumption | (simp only [nm,List.length_map,hw];first | done | assumption | omega),?_⟩ | refine Or.inr (Or.inl ⟨by first | assumption | (simp only [nm,List.length_map,hw];first | done | assumption | omega),?_⟩) | (refine Or.inr (Or.inr ⟨fun hsp=>?_,fun hsp=>?_⟩) <;>(try simp only [nm,List.length_map,hw] at hsp) <;>try subst hsp)) | refine ⟨_,_,ko,?_⟩ | fail)
 all_goals (conv=>whnf)
 all_goals (first | exact PV.le.refl _ | (exfalso;omega) | (exfalso;grind))
end Go.Ab.Td
namespace Go.Ab.Td
set_option maxRecDepth 100000
set_option maxRecDepth 100000
open Go Go.Ab
variable {P:Program}
set_option linter.unusedSimpArgs false
attribute [local irreducible] e9
set_option maxHeartbeats 8000000 in
theorem b4K (C:Laid P) (s:v9) (w K A B N:Int) (S:List UInt8) (o:Ob) (ko:j4 P G e8 [D4 K A B N S,.sl 7 (List.map j8 s.heap)] [] (aO o)) (hw:w.tmod 8=7) (hl:¬ (o.kind=9∧s.e6.length<20)):j4 P G i7 [.agg [.int .u8 w,.int .u8 K,.int .u8 A,.int .u8 B,.int .i32 N,.str S],aS s] [] (aS {s with f45:=IntKind.i64.wrap (1+IntKind.i64.wrap A)}):=by
 refine i5 C (k8 C) rfl ?_
 repeat' ((conv=>whnf);first | (with_reducible refine sC (by kernel_rfl) ?_) | ((first | (with_reducible first | refine sB ?_ | refine o5 ?_ | refine o6 ?_) | refine sP (by rfl) ?_);first | refine Or.inl ⟨by first | assumption | (simp only [nm,List.length_map,hw];first | done | assumption | omega),?_⟩ | refine Or.inr (Or.inl ⟨by first | assumption | (simp only [nm,List.length_map,hw];first | done | assumption | omega),?_⟩) | (refine Or.inr (Or.inr ⟨fun hsp=>?_,fun hsp=>?_⟩) <;>(try simp only [nm,List.length_map,hw] at hsp) <;>try subst hsp)) | refine ⟨_,_,ko,?_⟩ | fail)
 all_goals (conv=>whnf)
 all_goals (first | exact PV.le.refl _ | (exfalso;omega) | (exfalso;grind))
set_option maxHeartbeats 8000000 in
theorem b4J (C:Laid P) (s:v9) (w K A B N:Int) (S:List UInt8) (o:Ob) (ko:j4 P G e8 [D4 K A B N S,.sl 7 (List.map j8 s.heap)] [] (aO o)) (hw:w.tmod 8=7) (hk:o.kind=9) (hl:s.e6.length<20):j4 P G i7 [.agg [.int .u8 w,.int .u8 K,.int .u8 A,.int .u8 B,.int .i32 N,.str S],aS s] [] (aS {s with f45:=IntKind.i64.wrap (1+IntKind.i64.wrap A),e6:=s.e6++[o]}):=by
 refine i5 C (k8 C) rfl ?_
 repeat' ((conv=>whnf);first | (with_reducible refine sC (by kernel_rfl) ?_) | ((first | (with_reducible first | refine sB ?_ | refine o5 ?_ | refine o6 ?_) | refine sP (by rfl) ?_);first | refine Or.inl ⟨by first | assumption | (simp only [nm,List.length_map,hw,hk];first | done | assumption | omega),?_⟩ | refine Or.inr (Or.inl ⟨by first | assumption | (simp only [nm,List.length_map,hw,hk];first | done | assumption | omega),?_⟩) | (refine Or.inr (Or.inr ⟨fun hsp=>?_,fun hsp=>?_⟩) <;>(try simp only [nm,List.length_map,hw,hk] at hsp) <;>try subst hsp)) | refine ⟨_,_,ko,?_⟩ | refine sS (o3 (f:=i4) (x':=s.e6) (by rfl) (by first | exact f0 | exact d8 | exact d9 (by rfl) (by rfl)) (by rfl) (by (try simp only [ln]);omega)) ?_ | refine sS (m0 (f:=i4) (l:=s.e6) (x':=[o]) (by rfl) (by rfl) (by simp) (by first | exact f0 | exact d8 | exact d9 (by rfl) (by rfl)) (by rfl) (by (try simp only [ln]);omega)) ?_ | fail)
 all_goals (conv=>whnf)
 all_goals (first | (exfalso;omega) | ((repeat' (first | (with_reducible exact PV.le.refl _) | exact PV.le.emp _ | exact I3.nil | (with_reducible refine w5 ?_) | (with_reducible refine p8 ?_) | (refine I3.cons ?_ ?_) | (with_reducible refine j9 ?_) | (with_reducible refine x8 ?_) | (with_reducible refine A0 ?_) | (with_reducible refine y3 ?_) | (with_reducible refine q9 ?_) | (refine A3 ?_))) <;>(first | (rw [a2f (by simp)];done) | exact PV.le.refl _ | rfl | (simp;done) | (refine le_of_eq ?_;simp;done))))
end Go.Ab.Td

/- A part of the proof: the texts TdZn, TdW19, TdSf, TdUa, AbOe, TdRv0, TdZp1, TdZp2. Under: nothing. -/
import Derived.Test.YtomfaadmmchdcaaGreatDoorG29
import Derived.Test.YtomfaadmmchdcaaGreatDoorG35
import Derived.Test.YtomfaadmmchdcaaGreatDoorG36
import Derived.Test.YtomfaadmmchdcaaGreatDoorG05
import Derived.Test.YtomfaadmmchdcaaGreatDoorG07
import Derived.KernelRfl
import Derived.Test.YtomfaadmmchdcaaGreatDoorG14
import Derived.Test.YtomfaadmmchdcaaGreatDoorG20
import Derived.Test.YtomfaadmmchdcaaGreatDoorG21
import Derived.Test.YtomfaadmmchdcaaGreatDoorG19
import Derived.Test.YtomfaadmmchdcaaGreatDoorG04
import Derived.Test.YtomfaadmmchdcaaGreatDoorG13
import Derived.Test.YtomfaadmmchdcaaGreatDoorG32
import Derived.Test.YtomfaadmmchdcaaGreatDoorG24
set_option linter.unusedVariables false
namespace Go.Ab.Td
set_option maxRecDepth 100000
set_option maxRecDepth 100000
open Go Go.Ab
variable {P:Program}
set_option linter.unusedSimpArgs false
attribute [local irreducible] e9
set_option linter.unusedVariables false
abbrev b4Q (b:Int):Ob:=⟨2,false,b,[],0,0,0⟩
abbrev inO (n:Int):Ob:=⟨3,false,n,[],0,0,0⟩
set_option maxHeartbeats 4000000 in
theorem a6M (C:Laid P) (s t:B8) (op:List UInt8) (l:List Ob) (e:Int) (h:l3 P G C5 [aS {s with ops:=l},.str op] [] (.o0 [aS t,pI e])):l3 P G u0 [aS s,.str op,.sl 7 (List.map i4 l)] [] (.o0 [aS t,pI e]):=by
 refine k8 C (b6F C) rfl ?_
 repeat' ((conv=>whnf);first | (with_reducible refine sC (by kernel_rfl) ?_) | ((first | (with_reducible first | refine sB ?_ | refine z7 ?_ | refine z8 ?_) | refine sP (by rfl) ?_);first | refine oT ?_ | refine oF ?_ | (refine Or.inr (Or.inr ⟨fun hsp=>?_,fun hsp=>?_⟩) <;>(try simp only [nm] at hsp) <;>try subst hsp)) | refine ⟨_,_,h,?_⟩ | fail)
 all_goals (conv=>whnf)
 all_goals (first | exact PV.le.refl _ | ((repeat' (first | (with_reducible exact PV.le.refl _) | exact PV.le.emp _ | exact E6.nil | (with_reducible refine p8 ?_) | (with_reducible refine o6 ?_) | (refine E6.cons ?_ ?_) | (with_reducible refine l0 ?_) | (with_reducible refine q8 ?_) | (with_reducible refine A9 ?_) | (with_reducible refine z9 ?_) | (with_reducible refine o3 ?_) | (refine A8 ?_))) <;>first | rfl | exact le_of_eq rfl))
set_option maxHeartbeats 4000000 in
theorem ok_on0 (C:Laid P) (s t:B8) (op:List UInt8) (e:Int) (h:l3 P G C5 [aS {s with ops:=[]},.str op] [] (.o0 [aS t,pI e])):l3 P G u0 [aS s,.str op,.emp 7] [] (.o0 [aS t,pI e]):=by
 refine k8 C (b6F C) rfl ?_
 repeat' ((conv=>whnf);first | (with_reducible refine sC (by kernel_rfl) ?_) | ((first | (with_reducible first | refine sB ?_ | refine z7 ?_ | refine z8 ?_) | refine sP (by rfl) ?_);first | refine oT ?_ | refine oF ?_ | (refine Or.inr (Or.inr ⟨fun hsp=>?_,fun hsp=>?_⟩) <;>(try simp only [nm] at hsp) <;>try subst hsp)) | refine ⟨_,_,b4C h (.cons (o6 (.cons (.emp 7) (.refl _))) (.refl _)),?_⟩ | fail)
 all_goals (conv=>whnf)
 all_goals (first | exact PV.le.refl _ | ((repeat' (first | (with_reducible exact PV.le.refl _) | exact PV.le.emp _ | exact E6.nil | (with_reducible refine p8 ?_) | (with_reducible refine o6 ?_) | (refine E6.cons ?_ ?_) | (with_reducible refine l0 ?_) | (with_reducible refine q8 ?_) | (with_reducible refine A9 ?_) | (with_reducible refine z9 ?_) | (with_reducible refine o3 ?_) | (refine A8 ?_))) <;>first | rfl | exact le_of_eq rfl))
set_option maxHeartbeats 1000000 in
theorem b2j (C:Laid P) (b:Bool):l3 P G J1 [.bool b] [] (aO ⟨2,false,(if b=true then 1 else 0),[],0,0,0⟩):=by
 refine k8 C (a7C C) rfl ?_
 cases b
 repeat' ((conv=>whnf);first | (with_reducible refine sC (by kernel_rfl) ?_) | ((first | (with_reducible first | refine sB ?_ | refine z7 ?_ | refine z8 ?_) | refine sP (by rfl) ?_);first | refine oT ?_ | refine oF ?_ | (refine Or.inr (Or.inr ⟨fun hsp=>?_,fun hsp=>?_⟩) <;>(try simp only [nm] at hsp) <;>try subst hsp)) | fail)
 all_goals (conv=>whnf)
 all_goals (first | exact PV.le.refl _ | ((repeat' (first | (with_reducible exact PV.le.refl _) | exact PV.le.emp _ | exact E6.nil | (with_reducible refine p8 ?_) | (with_reducible refine o6 ?_) | (refine E6.cons ?_ ?_) | (with_reducible refine l0 ?_) | (with_reducible refine q8 ?_) | (with_reducible refine A9 ?_) | (with_reducible refine z9 ?_) | (with_reducible refine o3 ?_) | (refine A8 ?_))) <;>first | rfl | exact le_of_eq rfl))
set_option maxHeartbeats 1000000 in
theorem ok_law16_i (C:Laid P) (n:Int):l3 P G L4 [pI n] [] (aO ⟨3,false,n,[],0,0,0⟩):=by
 refine k8 C (b8F C) rfl ?_
 repeat' ((conv=>whnf);first | (with_reducible refine sC (by kernel_rfl) ?_) | ((first | (with_reducible first | refine sB ?_ | refine z7 ?_ | refine z8 ?_) | refine sP (by rfl) ?_);first | refine oT ?_ | refine oF ?_ | (refine Or.inr (Or.inr ⟨fun hsp=>?_,fun hsp=>?_⟩) <;>(try simp only [nm] at hsp) <;>try subst hsp)) | fail)
 all_goals (conv=>whnf)
 all_goals (first | exact PV.le.refl _ | ((repeat' (first | (with_reducible exact PV.le.refl _) | exact PV.le.emp _ | exact E6.nil | (with_reducible refine p8 ?_) | (with_reducible refine o6 ?_) | (refine E6.cons ?_ ?_) | (with_reducible refine l0 ?_) | (with_reducible refine q8 ?_) | (with_reducible refine A9 ?_) | (with_reducible refine z9 ?_) | (with_reducible refine o3 ?_) | (refine A8 ?_))) <;>first | rfl | exact le_of_eq rfl))
theorem DS.one {m:Nat} {s:B8} (t:DS m s) {a:Ob} (fa:fits s.heap a) (na:a.n<9223372036854775808):DS m {s with ops:=[a]}:=
 t.b2D (by simp) (fun o ho=>by simp only [List.mem_singleton] at ho;subst ho;exact fa) (fun o ho=>by simp only [List.mem_singleton] at ho;subst ho;exact na)
theorem DS.two {m:Nat} {s:B8} (t:DS m s) {a b:Ob} (fa:fits s.heap a) (na:a.n<9223372036854775808) (fb:fits s.heap b) (nb:b.n<9223372036854775808):DS m {s with ops:=[a,b]}:=
 t.b2D (by simp) (fun o ho=>by simp only [List.mem_cons,List.not_mem_nil,or_false] at ho;rcases ho with rfl | rfl <;>assumption) (fun o ho=>by simp only [List.mem_cons,List.not_mem_nil,or_false] at ho;rcases ho with rfl | rfl <;>assumption)
theorem DS.three {m:Nat} {s:B8} (t:DS m s) {a b c:Ob} (fa:fits s.heap a) (na:a.n<9223372036854775808) (fb:fits s.heap b) (nb:b.n<9223372036854775808) (fc:fits s.heap c) (nc:c.n<9223372036854775808):DS m {s with ops:=[a,b,c]}:=
 t.b2D (by simp) (fun o ho=>by simp only [List.mem_cons,List.not_mem_nil,or_false] at ho;rcases ho with rfl | rfl | rfl <;>assumption) (fun o ho=>by simp only [List.mem_cons,List.not_mem_nil,or_false] at ho;rcases ho with rfl | rfl | rfl <;>assumption)
theorem DS.nil {m:Nat} {s:B8} (t:DS m s):DS m {s with ops:=[]}:=t.b2D (by simp) (fun o ho=>by cases ho) (fun o ho=>by cases ho)
end Go.Ab.Td
namespace Go.Ab.Td.TdW19
set_option maxRecDepth 100000
set_option maxRecDepth 100000
open Go Go.Ab Go.Ab.Td
variable {P:Program}
set_option linter.unusedSimpArgs false
def a1e:TF:=.nil
def c6v:List AV:=[.pv (.int .i64 (0)),.pv (.bool false),.pv (.int .i64 (0)),.pv (.str []),.pv (.int .i64 (0)),.pv (.int .i64 (0)),.pv (.int .i64 (0))]
def ext (g:Nat):Option a2A:=match Nat.beq g u3 with | true=>some (a7U 7 64) | false=>none
theorem c2q (_C:Laid P):a1e.all (d8 P)=true:=by simp only [a1e,TF.all,Bool.and_self]
theorem b9V:E7=a6r 7 64 c6v:=rfl
theorem b5l (C:Laid P):a3H P G fun g=>(ext g).map a6c:=by
 intro g h hg
 cases hb:Nat.beq g u3 with
 | true=>
   have:=Nat.eq_of_beq_eq_true hb
   subst this
   cases hg
   exact b9W C.mixed (by rw [← b9V];exact a0f C)
 | false=>
   have:ext g=none:=by unfold ext;rw [hb]
   simp only [this] at hg
   cases hg
theorem a9m:∀ g ps own r,kn0 g ps=some (own,r)→l3 P G g ps own r:=fun _ _ _ _ h=>by cases h
end Go.Ab.Td.TdW19
namespace Go.Ab.Td
set_option maxRecDepth 100000
open Go Go.Ab
variable {P:Program}
set_option linter.unusedSimpArgs false
attribute [local irreducible] e9
end Go.Ab.Td
namespace Go.Ab.Td
set_option maxRecDepth 100000
open Go Go.Ab
variable {P:Program}
set_option linter.unusedSimpArgs false
attribute [local irreducible] e9
end Go.Ab.Td
namespace Go.Ab
open Go.RowKit
end Go.Ab
namespace Go.Ab.Td
set_option maxRecDepth 100000
open Go Go.Ab
variable {P:Program}
set_option linter.unusedSimpArgs false
attribute [local irreducible] e9
end Go.Ab.Td
namespace Go.Ab.Td
set_option maxRecDepth 100000
set_option maxRecDepth 100000
open Go Go.Ab
variable {P:Program}
set_option linter.unusedSimpArgs false
attribute [local irreducible] e9
set_option maxHeartbeats 8000000 in
theorem ok_Def1 (C:Laid P) (s:B8) (cells ops d5:List (List PV)) (kst:l3 P G y8 [.agg [.sl 5 cells,.sl 5 ops,.sl 1 d5]] [] (aS s)) (K0 A0 B0 N0:Int) (S0:List UInt8) (key:Ob) (kO0:l3 P G j1 [a1m K0 A0 B0 N0 S0,.sl 7 (List.map j8 s.heap)] [] (aO key)) (K1 A1 B1 N1:Int) (S1:List UInt8) (val:Ob) (kO1:l3 P G j1 [a1m K1 A1 B1 N1 S1,.sl 7 (List.map j8 s.heap)] [] (aO val)) (K2 A2 B2 N2:Int) (S2:List UInt8) (oth:Ob) (kO2:l3 P G j1 [a1m K2 A2 B2 N2 S2,.sl 7 (List.map j8 s.heap)] [] (aO oth)) (k m:Ob) (e f:Int) (kKk:l3 P G O0 [.sl 7 (List.map j8 s.heap),aO key] [] (.o0 [aO k,pI e])) (kKo:l3 P G O0 [.sl 7 (List.map j8 s.heap),aO oth] [] (.o0 [aO m,pI f])) (he:e≠0) (X:B8) (kD:l3 P G u0 [aS s,.str [100,101,102],.sl 7 (List.map i4 [key,val])] [] (.o0 [aS X,pI e])):l3 P G n_law16_DictDefines [.agg [.sl 5 cells,.sl 5 ops,.sl 1 d5],.agg ([.int .u8 K0,.int .u8 A0,.int .u8 B0,.int .i32 N0,.str S0]++([.int .u8 K1,.int .u8 A1,.int .u8 B1,.int .i32 N1,.str S1]++[.int .u8 K2,.int .u8 A2,.int .u8 B2,.int .i32 N2,.str S2]))] [] (.bool true):=by
 refine k8 C (k_law16_DictDefines C) rfl ?_
 repeat' ((conv=>whnf);first | (with_reducible refine sC (by kernel_rfl) ?_) | ((first | (with_reducible first | refine sB ?_ | refine z7 ?_ | refine z8 ?_) | refine sP (by rfl) ?_);first | refine oT ?_ | refine oF ?_ | (refine Or.inr (Or.inr ⟨fun hsp=>?_,fun hsp=>?_⟩) <;>(try simp only [nm,List.length_map] at hsp) <;>try subst hsp)) | refine ⟨_,_,TdW16.ok C,?_⟩ | refine ⟨_,_,kst,?_⟩ | refine ⟨_,_,kO0,?_⟩ | refine ⟨_,_,kO1,?_⟩ | refine ⟨_,_,kO2,?_⟩ | refine ⟨_,_,kKk,?_⟩ | refine ⟨_,_,kKo,?_⟩ | refine ⟨_,_,kD,?_⟩ | fail)
 all_goals (conv=>whnf)
 all_goals (first | exact PV.le.refl _ | (refine le_of_eq ?_;simp) | (trace_state;sorry))
end Go.Ab.Td
namespace Go.Ab.Td
set_option maxRecDepth 100000
set_option maxRecDepth 100000
open Go Go.Ab
variable {P:Program}
set_option linter.unusedSimpArgs false
attribute [local irreducible] e9
set_option maxHeartbeats 8000000 in
theorem ok_Def2 (C:Laid P) (s:B8) (cells ops d5:List (List PV)) (kst:l3 P G y8 [.agg [.sl 5 cells,.sl 5 ops,.sl 1 d5]] [] (aS s)) (K0 A0 B0 N0:Int) (S0:List UInt8) (key:Ob) (kO0:l3 P G j1 [a1m K0 A0 B0 N0 S0,.sl 7 (List.map j8 s.heap)] [] (aO key)) (K1 A1 B1 N1:Int) (S1:List UInt8) (val:Ob) (kO1:l3 P G j1 [a1m K1 A1 B1 N1 S1,.sl 7 (List.map j8 s.heap)] [] (aO val)) (K2 A2 B2 N2:Int) (S2:List UInt8) (oth:Ob) (kO2:l3 P G j1 [a1m K2 A2 B2 N2 S2,.sl 7 (List.map j8 s.heap)] [] (aO oth)) (k m:Ob) (e f:Int) (kKk:l3 P G O0 [.sl 7 (List.map j8 s.heap),aO key] [] (.o0 [aO k,pI e])) (kKo:l3 P G O0 [.sl 7 (List.map j8 s.heap),aO oth] [] (.o0 [aO m,pI f])) (he:e=0) (dl:List Ob) (top:Ob) (hdt:s.d5=dl++[top]) (hdl:dl.length≤1000) (X M Y:B8) (o1:Ob) (kD:l3 P G u0 [aS s,.str [100,101,102],.sl 7 (List.map i4 [key,val])] [] (.o0 [aS X,pI 30])) (kM:l3 P G u0 [aS s,.str [109,97,120,108,101,110,103,116,104],.sl 7 (List.map i4 [top])] [] (.o0 [aS M,pI 0])) (kL:l3 P G u0 [aS s,.str [108,101,110,103,116,104],.sl 7 (List.map i4 [top])] [] (.o0 [aS Y,pI 0])) (hMo:M.ops=[o1]) (hYo:Y.ops=[o1]):l3 P G n_law16_DictDefines [.agg [.sl 5 cells,.sl 5 ops,.sl 1 d5],.agg ([.int .u8 K0,.int .u8 A0,.int .u8 B0,.int .i32 N0,.str S0]++([.int .u8 K1,.int .u8 A1,.int .u8 B1,.int .i32 N1,.str S1]++[.int .u8 K2,.int .u8 A2,.int .u8 B2,.int .i32 N2,.str S2]))] [] (.bool true):=by
 refine k8 C (k_law16_DictDefines C) rfl ?_
 have hr2:(List.map i4 s.d5)[((dl.length:Nat):Int).toNat]?=some (i4 top):=by rw [hdt];simp
 have hdll:s.d5.length=dl.length+1:=by rw [hdt];simp
 have hwT:IntKind.i64.wrap ((s.d5.length:Int) - 1)=(dl.length:Int):=by rw [wrap_small (by omega) (by omega)];omega
 have kE:=a4A C [o1] (by simp)
 repeat' ((conv=>whnf);first | (with_reducible refine sC (by kernel_rfl) ?_) | ((first | (with_reducible first | refine sB ?_ | refine z7 ?_ | refine z8 ?_) | refine sP (by rfl) ?_);first | refine Or.inl ⟨by first | assumption | (simp only [nm,List.length_map,hdll];first | done | assumption | omega),?_⟩ | refine Or.inr (Or.inl ⟨by first | assumption | (simp only [nm,List.length_map,hdll];first | done | assumption | omega),?_⟩) | (refine Or.inr (Or.inr ⟨fun hsp=>?_,fun hsp=>?_⟩) <;>(try simp only [nm,List.length_map,hdll] at hsp) <;>try subst hsp)) | refine ⟨_,_,TdW16.ok C,?_⟩ | refine ⟨_,_,kst,?_⟩ | refine ⟨_,_,kO0,?_⟩ | refine ⟨_,_,kO1,?_⟩ | refine ⟨_,_,kO2,?_⟩ | refine ⟨_,_,kKk,?_⟩ | refine ⟨_,_,kKo,?_⟩ | refine ⟨_,_,kD,?_⟩ | refine ⟨_,_,kM,?_⟩ | refine ⟨_,_,kL,?_⟩ | (rw [hMo,hYo];refine ⟨_,_,kE,?_⟩) | refine sS (e7 (by rfl) (by rfl) (by simp only [List.length_map,hwT];omega) (by simp only [List.length_map,hwT];exact hr2)) ?_ | fail)
 all_goals (conv=>whnf)
 all_goals (first | exact PV.le.refl _ | (refine le_of_eq ?_;simp) | (trace_state;sorry))
end Go.Ab.Td

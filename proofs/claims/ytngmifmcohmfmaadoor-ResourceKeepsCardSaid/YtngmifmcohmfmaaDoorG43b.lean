/- A part of the proof: the texts TdSp1, TdSn, TdSo, TdSa, TdSb, TdSc, TdSj. Under: nothing. -/
import Derived.Test.YtngmifmcohmfmaaDoorG41
import Derived.Test.YtngmifmcohmfmaaDoorG43a
import Derived.Test.YtngmifmcohmfmaaDoorG42
import Derived.Test.YtngmifmcohmfmaaDoorG44
import Derived.Test.YtngmifmcohmfmaaDoorG45
import Derived.Test.YtngmifmcohmfmaaDoorG46
import Derived.Test.YtngmifmcohmfmaaDoorG39
import Derived.Test.YtngmifmcohmfmaaDoorG23
import Derived.Test.YtngmifmcohmfmaaDoorG05
import Derived.Test.YtngmifmcohmfmaaDoorG34
import Derived.Test.YtngmifmcohmfmaaDoorG33
set_option linter.unusedVariables false
namespace Go.Ab.Td
set_option maxRecDepth 100000
set_option maxRecDepth 100000
open Go Go.Ab
variable {P:Program}
set_option linter.unusedSimpArgs false
attribute [local irreducible] j6
set_option maxHeartbeats 16000000 in
theorem a3L (C:Laid P) (cells ops k8:List (List PV)) (w0 w1 w2:Wd) (c0 c1:Int) (s:Q0) (key o m0 k m:Ob) (e1 e2:Int) (cs cs2:List UInt8)
 (ht0:0≤c0.tmod 5) (ht1:0≤c1.tmod 5) (hcs:(a1y.map fun c=>[PV.str c])[(c0.tmod 5).toNat]?=some [PV.str cs]) (hcs2:(a1y.map fun c=>[PV.str c])[(c1.tmod 5).toNat]?=some [PV.str cs2])
 (kst:l9 P G B3 [.agg [.sl 5 cells,.sl 5 ops,.sl 1 k8]] [] (aS s))
 (kk:l9 P G i7 [.agg w0.row,.sl 7 (List.map m9 s.heap)] [] (.agg (m6 key))) (ko:l9 P G i7 [.agg w1.row,.sl 7 (List.map m9 s.heap)] [] (.agg (m6 o))) (km:l9 P G i7 [.agg w2.row,.sl 7 (List.map m9 s.heap)] [] (.agg (m6 m0)))
 (kk1:l9 P G A9 [.sl 7 (List.map m9 s.heap),aO key] [] (.s9 [aO k,pI e1])) (kk2:l9 P G A9 [.sl 7 (List.map m9 s.heap),aO m0] [] (.s9 [aO m,pI e2])) (T:Q0) (g:Int) (kD:l9 P G k7 [aS (S3 s key o cs),.str a3q] [] (.s9 [aS T,pI g])) (hg:g≠0) (hgk:(e1≠0∧g=e1)∨(e1=0∧((g=22∧cs≠[71,101,110,101,114,105,99])∨g=30))):l9 P G C2 [.agg [.sl 5 cells,.sl 5 ops,.sl 1 k8],.agg (w0.row++(w1.row++w2.row)),.int .u8 c0,.int .u8 c1] [] (.bool true):=by
 refine l7 C (a0I C) rfl ?_
 obtain ⟨wK,wA,wB,wN,wS,wa1,wa2,wa3⟩:=w0
 obtain ⟨xK,xA,xB,xN,xS,xa1,xa2,xa3⟩:=w1
 obtain ⟨yK,yA,yB,yN,yS,ya1,ya2,ya3⟩:=w2
 rcases hgk with ⟨h1,h2⟩ | ⟨h1,⟨h2,h3⟩ | h2⟩
 ·subst h2
  repeat' ((conv=>whnf);first | (with_reducible refine sC (by kernel_rfl) ?_) | ((first | (with_reducible first | refine sB ?_ | refine A2 ?_ | refine A3 ?_) | refine sP (by rfl) ?_);first | refine oT ?_ | refine oF ?_ | (refine Or.inr (Or.inr ⟨fun hsp=>?_,fun hsp=>?_⟩) <;>(try simp only [nm,List.length_map] at hsp) <;>try subst hsp)) | refine ⟨_,_,TdW18.ok C,?_⟩ | refine ⟨_,_,kst,?_⟩ | refine ⟨_,_,kk,?_⟩ | refine ⟨_,_,ko,?_⟩ | refine ⟨_,_,km,?_⟩ | refine ⟨_,_,kk1,?_⟩ | refine ⟨_,_,kk2,?_⟩ | refine ⟨_,_,E9 C,?_⟩ | refine ⟨_,_,V6 C cs,?_⟩ | refine ⟨_,_,J7 C s [key,o,D1 cs],?_⟩ | refine ⟨_,_,kD,?_⟩ | refine sS (D7 (by rfl) (by rfl) (by decide)) ?_ | refine sS (a1o (by rfl) (by rfl) ht0 hcs) ?_ | refine sS (a1o (by rfl) (by rfl) ht1 hcs2) ?_ | fail)
  all_goals (conv=>whnf)
  all_goals (first | exact PV.le.refl _ | (exfalso;omega) | (refine le_of_eq ?_;simp;done) | (exfalso;grind))
 ·subst h1 h2
  repeat' ((conv=>whnf);first | (with_reducible refine sC (by kernel_rfl) ?_) | ((first | (with_reducible first | refine sB ?_ | refine A2 ?_ | refine A3 ?_) | refine sP (by rfl) ?_);first | refine oT ?_ | refine oF ?_ | (refine Or.inr (Or.inr ⟨fun hsp=>?_,fun hsp=>?_⟩) <;>(try simp only [nm,List.length_map] at hsp) <;>try subst hsp)) | refine ⟨_,_,TdW18.ok C,?_⟩ | refine ⟨_,_,kst,?_⟩ | refine ⟨_,_,kk,?_⟩ | refine ⟨_,_,ko,?_⟩ | refine ⟨_,_,km,?_⟩ | refine ⟨_,_,kk1,?_⟩ | refine ⟨_,_,kk2,?_⟩ | refine ⟨_,_,E9 C,?_⟩ | refine ⟨_,_,V6 C cs,?_⟩ | refine ⟨_,_,J7 C s [key,o,D1 cs],?_⟩ | refine ⟨_,_,kD,?_⟩ | refine sS (D7 (by rfl) (by rfl) (by decide)) ?_ | refine sS (a1o (by rfl) (by rfl) ht0 hcs) ?_ | refine sS (a1o (by rfl) (by rfl) ht1 hcs2) ?_ | fail)
  all_goals (conv=>whnf)
  all_goals (first | exact PV.le.refl _ | (exfalso;omega) | (refine le_of_eq ?_;simp;done) | (exfalso;grind))
 ·subst h1 h2
  repeat' ((conv=>whnf);first | (with_reducible refine sC (by kernel_rfl) ?_) | ((first | (with_reducible first | refine sB ?_ | refine A2 ?_ | refine A3 ?_) | refine sP (by rfl) ?_);first | refine oT ?_ | refine oF ?_ | (refine Or.inr (Or.inr ⟨fun hsp=>?_,fun hsp=>?_⟩) <;>(try simp only [nm,List.length_map] at hsp) <;>try subst hsp)) | refine ⟨_,_,TdW18.ok C,?_⟩ | refine ⟨_,_,kst,?_⟩ | refine ⟨_,_,kk,?_⟩ | refine ⟨_,_,ko,?_⟩ | refine ⟨_,_,km,?_⟩ | refine ⟨_,_,kk1,?_⟩ | refine ⟨_,_,kk2,?_⟩ | refine ⟨_,_,E9 C,?_⟩ | refine ⟨_,_,V6 C cs,?_⟩ | refine ⟨_,_,J7 C s [key,o,D1 cs],?_⟩ | refine ⟨_,_,kD,?_⟩ | refine sS (D7 (by rfl) (by rfl) (by decide)) ?_ | refine sS (a1o (by rfl) (by rfl) ht0 hcs) ?_ | refine sS (a1o (by rfl) (by rfl) ht1 hcs2) ?_ | fail)
  all_goals (conv=>whnf)
  all_goals (first | exact PV.le.refl _ | (exfalso;omega) | (refine le_of_eq ?_;simp;done) | (exfalso;grind))
end Go.Ab.Td
namespace Go.Ab.Td
set_option maxRecDepth 100000
set_option maxRecDepth 100000
open Go Go.Ab
variable {P:Program}
set_option linter.unusedSimpArgs false
section
variable {s:Q0} {key o:Ob} {cs:List UInt8} {j:Int} (a:RA s key cs j) (C:Laid P)
include a C
theorem RA.c0G (ho:o.n<9223372036854775808) (he:(o0 s.heap key).2≠0):l9 P G k7 [aS (S3 s key o cs),.str a3q] [] (.s9 [aS (S3 s key o cs),pI (o0 s.heap key).2]):=by
 have k:=b4H C (S3 s key o cs) l0 (a.n3 ho) (by rw [a.c0C];exact he)
 rw [a.c0C] at k
 exact a8s C _ _ _ k
theorem RA.b3a (ho:o.n<9223372036854775808) (he:(o0 s.heap key).2=0) {t:Q0} {e:Int} (hg:l9 P G l0 [aS (S3 s key o cs),.agg (a3F (o0 s.heap key).1 o (D1 cs) (dO j) 3)] [] (.s9 [aS t,pI e])):l9 P G k7 [aS (S3 s key o cs),.str a3q] [] (.s9 [aS t,pI e]):=
 a8s C _ _ _ (c0W C (S3 s key o cs) t l0 e (a.n3 ho) (by rw [a.c0C];exact he) (by rw [a.c6e];exact hg))
theorem RA.c3g (ho:o.n<9223372036854775808) (he:(o0 s.heap key).2=0) (hx:¬ a2S cs o):l9 P G k7 [aS (S3 s key o cs),.str a3q] [] (.s9 [aS (S3 s key o cs),pI 22]):=
 a.b3a C ho he (b3y C (S3 s key o cs) (o0 s.heap key).1 o (D1 cs) (dO j) 3 hx)
theorem RA.b8O (ho:o.n<9223372036854775808) (he:(o0 s.heap key).2=0) (hx:a2S cs o) (hp:a0K (cellAt s.heap (dO j)) (o0 s.heap key).1 o=none):l9 P G k7 [aS (S3 s key o cs),.str a3q] [] (.s9 [aS (S3 s key o cs),pI 30]):=
 a.b3a C ho he (b1f C (S3 s key o cs) (o0 s.heap key).1 o (D1 cs) (dO j) 3 (a.n3 ho) (by show (0:Int)<_;decide) hx (a.rh.dic a.lk a.j5 a.j9).2.2.1 hp)
theorem RA.c3h (ho:o.n<9223372036854775808) (he:(o0 s.heap key).2=0) (hx:a2S cs o) {c':Cl} (hp:a0K (cellAt s.heap (dO j)) (o0 s.heap key).1 o=some c'):l9 P G k7 [aS (S3 s key o cs),.str a3q] [] (.s9 [aS {s with ops:=[o],heap:=s.heap.set j.toNat c'},pI 0]):=
 a.b3a C ho he (b7A C (S3 s key o cs) (o0 s.heap key).1 o (D1 cs) (dO j) 3 (a.n3 ho) (by show (0:Int)<_;decide) c' (by decide) (by simp [S3]) (by simp [S3]) hx (a.rh.dic a.lk a.j5 a.j9).2.2.1 hp)
theorem RA.c1a {g:Nat} (he:(o0 s.heap key).2=0) {t:Q0} {e:Int} (hg:l9 P G g [aS (S2 s key cs),.agg (a3F (o0 s.heap key).1 (D1 cs) (D1 cs) (dO j) 2)] [] (.s9 [aS t,pI e])):
 l9 P G n4 [.ref [.func (.func i6) [aS (S2 s key cs)] []],.ref [pI 2],.ref (b0E (S2 s key cs)),.ref [.func (.func g) [aS (S2 s key cs)] []]] [] (.s9 [aS t,pI e]):=
 c0V C (S2 s key cs) t g e a.n2 (by rw [a.c6a];exact he) (by rw [a.c6d];exact hg)
theorem RA.fnd {k:Ob}:a9M s.heap (dO j) k=(if (look (cellAt s.heap (dO j)) k).isSome=true then 0 else 40)∧a9N s.heap (dO j) k=(look (cellAt s.heap (dO j)) k).getD L5:=by
 have _u:=C
 obtain ⟨-, -,e3, -⟩:=a.rh.dic a.lk a.j5 a.j9
 unfold a9M a9N
 exact ⟨by rw [if_neg (by rw [e3];simp)],by rw [if_neg (by rw [e3];simp)]⟩
theorem RA.c0Q (he:(o0 s.heap key).2=0) {v:Ob} (hv:look (cellAt s.heap (dO j)) (o0 s.heap key).1=some v):l9 P G k7 [aS (S2 s key cs),.str [102,105,110,100,114,101,115,111,117,114,99,101]] [] (.s9 [aS {s with ops:=[v]},pI 0]):=by
 obtain ⟨f1,f2⟩:=a.fnd C (k:=(o0 s.heap key).1)
 have k:=b7B C (S2 s key cs) (o0 s.heap key).1 (D1 cs) (D1 cs) (dO j) 2 a.n2 (by show (0:Int)<_;decide) (by decide) (by simp [S2]) (by simp [S2]) (by show a9M s.heap _ _=0;rw [f1,hv];rfl)
 rw [show a9N (S2 s key cs).heap (dO j) (o0 s.heap key).1=v by show a9N s.heap _ _=v;rw [f2,hv];rfl] at k
 exact b3w C _ _ _ (a.c1a C he k)
theorem RA.c0d (he:(o0 s.heap key).2=0) {v:Ob} (hv:look (cellAt s.heap (dO j)) (o0 s.heap key).1=some v):l9 P G k7 [aS (S2 s key cs),.str [114,101,115,111,117,114,99,101,115,116,97,116,117,115]] [] (.s9 [aS {s with ops:=[⟨2,false,1,[],0,0,0⟩]},pI 0]):=by
 obtain ⟨f1,f2⟩:=a.fnd C (k:=(o0 s.heap key).1)
 have k:=b1X C (S2 s key cs) (o0 s.heap key).1 (D1 cs) (D1 cs) (dO j) 2 a.n2 (by show (0:Int)<_;decide) (by decide) (by simp [S2]) (by simp [S2]) (by show a9M s.heap _ _=0;rw [f1,hv];rfl)
 exact b3x C _ _ _ (a.c1a C he k)
theorem RA.c0Z (he:(o0 s.heap key).2=0) {q:Nat} (hi:i9 (o0 s.heap key).1 0 (cellAt s.heap (dO j)).keys=(q:Int)) (hik:q<(cellAt s.heap (dO j)).keys.length) (hiv:q<(cellAt s.heap (dO j)).v3.length):l9 P G k7 [aS (S2 s key cs),.str [117,110,100,101,102,105,110,101,114,101,115,111,117,114,99,101]] [] (.s9 [aS {s with ops:=[],heap:=s.heap.set j.toNat (a0z (cellAt s.heap (dO j)) q)},pI 0]):=by
 have k:=b7C C (S2 s key cs) (o0 s.heap key).1 (D1 cs) (D1 cs) (dO j) 2 a.n2 (by show (0:Int)<_;decide) (by decide) (by simp [S2]) (by simp [S2]) (a.rh.dic a.lk a.j5 a.j9).2.2.1 q hi hik hiv
 exact a8t C _ _ _ (a.c1a C he k)
theorem RA.c3E (he:(o0 s.heap key).2=0) (hi:i9 (o0 s.heap key).1 0 (cellAt s.heap (dO j)).keys<0):l9 P G k7 [aS (S2 s key cs),.str [117,110,100,101,102,105,110,101,114,101,115,111,117,114,99,101]] [] (.s9 [aS {s with ops:=[]},pI 0]):=by
 have k:=b3A C (S2 s key cs) (o0 s.heap key).1 (D1 cs) (D1 cs) (dO j) 2 a.n2 (by show (0:Int)<_;decide) (by decide) (by simp [S2]) (by simp [S2]) (a.rh.dic a.lk a.j5 a.j9).2.2.1 (.inl hi)
 exact a8t C _ _ _ (a.c1a C he k)
end
end Go.Ab.Td
namespace Go.Ab.Td
set_option maxRecDepth 100000
set_option maxRecDepth 100000
open Go Go.Ab
variable {P:Program}
set_option linter.unusedSimpArgs false
attribute [local irreducible] j6
set_option maxHeartbeats 4000000 in
theorem a9y (C:Laid P) (s t:Q0) (op:List UInt8) (w:Ob) (hdo:l9 P G k7 [aS s,.str op] [] (.s9 [aS t,pI 0])) (ht:t.ops=[w]):l9 P G J6 [aS s,.str op,.sl 7 (List.map m6 [w])] [] (.bool true):=by
 refine l7 C (b0U C) rfl ?_
 have kE:=a6X C [w] (by simp)
 have kE2:l9 P G s7 [.sl 7 (List.map m6 t.ops),.sl 7 (List.map m6 [w])] [] (.bool true):=by rw [ht];exact kE
 repeat' ((conv=>whnf);first | (with_reducible refine sC (by kernel_rfl) ?_) | ((first | (with_reducible first | refine sB ?_ | refine A2 ?_ | refine A3 ?_) | refine sP (by rfl) ?_);first | refine oT ?_ | refine oF ?_ | (refine Or.inr (Or.inr ⟨fun hsp=>?_,fun hsp=>?_⟩) <;>(try simp only [nm] at hsp) <;>try subst hsp)) | refine ⟨_,_,hdo,?_⟩ | refine ⟨_,_,kE2,?_⟩ | fail)
 all_goals (conv=>whnf)
 all_goals (exact PV.le.refl _)
end Go.Ab.Td
namespace Go.Ab.Td
set_option maxRecDepth 100000
open Go Go.Ab
variable {P:Program}
set_option linter.unusedSimpArgs false
attribute [local irreducible] j6
structure Sn where
 n:Int
 heap:List Cl
 st:Int
def b2m (x:Sn):List PV:=[.int .i64 x.n,.sl 7 (x.heap.map m9),.int .i64 x.st]
end Go.Ab.Td
namespace Go.Ab.Td
set_option maxRecDepth 100000
open Go Go.Ab
variable {P:Program}
set_option linter.unusedSimpArgs false
attribute [local irreducible] j6
end Go.Ab.Td
namespace Go.Ab.Td
set_option maxRecDepth 100000
open Go Go.Ab
variable {P:Program}
set_option linter.unusedSimpArgs false
attribute [local irreducible] j6
def grO (s:Q0):List PV:=[.int .i64 s.f5,.int .i64 s.f6,.int .i64 s.f7,.int .i64 s.f8,.int .i64 s.f9,.int .i64 s.f10,.sl 7 s.f11,.int .i64 s.f12,.int .i64 s.f13,.int .i64 s.f14,.int .i64 s.f15,.int .i64 s.f16,.int .i64 s.f17,.int .i64 s.f18,.int .i64 s.f19,.int .i64 s.f20,.int .i64 s.f21,.int .i64 s.f22,.int .i64 s.f23,.int .i64 s.f24,.int .i64 s.f25,.int .i64 s.f26,.int .i64 s.f27,.int .i64 s.f28,.int .i64 s.f29,.int .i64 s.f30,.int .i64 s.f31,.bool s.f32,.bool s.f33,.sl 47 s.f34,.int .i64 s.f35,.int .i64 s.f36,.int .i64 s.f37,.int .i64 s.f38,.int .i64 s.f39,.int .i64 s.f40,.int .i64 s.f41,.int .i64 s.f42,.sl 1 s.f43,.int .i64 s.f44,.int .i64 s.f45,.sl 2 s.f46,.int .i64 s.f47,.bool s.f48,.int .i64 s.f49,.str s.f50,.int .i64 s.f51,.int .i64 s.f52,.int .i64 s.f53,.int .i64 s.f54,.int .i64 s.f55,.int .i64 s.f56,.int .i64 s.f57,.int .i64 s.f58,.int .i64 s.f59,.int .i64 s.f60,.int .i64 s.f61]
end Go.Ab.Td
namespace Go.Ab.Td
set_option maxRecDepth 100000
set_option maxRecDepth 100000
open Go Go.Ab
variable {P:Program}
set_option linter.unusedSimpArgs false
attribute [local irreducible] j6
theorem ttS {p:Prop} (h:p):tt p=true:=a2l.mpr h
set_option maxHeartbeats 4000000 in
theorem a6g (C:Laid P) (s:Q0):l9 P G O4 [.agg (grO s),.agg (grO s)] [] (.bool true):=by
 refine l7 C (a6U C) rfl ?_
 repeat' ((conv=>whnf);first | (with_reducible refine sC (by kernel_rfl) ?_) | ((first | (with_reducible first | refine sB ?_ | refine A2 ?_ | refine A3 ?_) | refine sP (by rfl) ?_);first | refine Or.inl ⟨by first | assumption | (simp only [nm,beq_self_eq_true,Bool.and_self,Bool.and_true,List.length_map];first | done | assumption | omega),?_⟩ | refine Or.inr (Or.inl ⟨by first | assumption | (simp only [nm,beq_self_eq_true,Bool.and_self,Bool.and_true,List.length_map];first | done | assumption | omega),?_⟩) | (refine Or.inr (Or.inr ⟨fun hsp=>?_,fun hsp=>?_⟩) <;>(try simp only [nm,beq_self_eq_true,Bool.and_self,Bool.and_true,List.length_map] at hsp) <;>try subst hsp)) | fail)
 all_goals (conv=>whnf)
 all_goals (first | exact PV.le.refl _ | (refine le_of_eq ?_;simp))
set_option maxHeartbeats 8000000 in
theorem a7y (C:Laid P) (s:Q0) (l:List Sn) (ts:List Q0) (h3:s.f3=l.map b2m) (h62:s.f62=ts.map grO) (hb:big s.heap) (hlb:∀ x ∈ l,big x.heap) (hll:l.length≤1000000) (htl:ts.length≤1000000) (ho:s.ops.length≤1000000) (hd:s.k8.length≤1000000):l9 P G B1 [aS s,aS s] [] (.bool true):=by
 refine l7 C (a3d C) rfl ?_
 have k1:=J1 C s.ops s.ops (by omega)
 rw [ttS rfl] at k1
 have k2:=J1 C s.k8 s.k8 (by omega)
 rw [ttS rfl] at k2
 have k3:=a7b C s.heap s.heap hb
 rw [ttS rfl] at k3
 have hl3:s.f3.length=l.length:=by rw [h3,List.length_map]
 have hl62:s.f62.length=ts.length:=by rw [h62,List.length_map]
 repeat' ((conv=>whnf);first | (with_reducible refine sC (by kernel_rfl) ?_) | ((first | (with_reducible first | refine sB ?_ | refine A2 ?_ | refine A3 ?_) | refine sP (by rfl) ?_);first | refine Or.inl ⟨by first | assumption | (simp only [nm,beq_self_eq_true,Bool.and_self,Bool.and_true,List.length_map,hl3,hl62];first | done | assumption | omega),?_⟩ | refine Or.inr (Or.inl ⟨by first | assumption | (simp only [nm,beq_self_eq_true,Bool.and_self,Bool.and_true,List.length_map,hl3,hl62];first | done | assumption | omega),?_⟩) | (refine Or.inr (Or.inr ⟨fun hsp=>?_,fun hsp=>?_⟩) <;>(try simp only [nm,beq_self_eq_true,Bool.and_self,Bool.and_true,List.length_map,hl3,hl62] at hsp) <;>try subst hsp)) | refine ⟨_,_,k1,?_⟩ | refine ⟨_,_,k2,?_⟩ | refine ⟨_,_,k3,?_⟩ | fail)
 all_goals (conv=>whnf)
 intro X hX hW
 refine a6V hX (fun st (i:Nat)=>st.upd [(5,.pv (pI (i:Int)))] []) (fun i k=>i+k=l.length) 0 l.length (by (conv=>whnf);first | done | rfl) (by omega) ?_
 intro m i ih hI
 rcases a5u l i with ⟨x,hlt,hx⟩ | hge
 ·have hrow:s.f3[(i:Int).toNat]?=some (b2m x):=by rw [h3];exact T4 (f:=b2m) hx
  have kx:=a7b C x.heap x.heap (hlb x (List.mem_of_getElem? hx))
  rw [ttS rfl] at kx
  repeat' ((conv=>whnf);first | (with_reducible refine sC (by kernel_rfl) ?_) | ((first | (with_reducible first | refine sB ?_ | refine A2 ?_ | refine A3 ?_) | refine sP (by rfl) ?_);first | refine Or.inl ⟨by first | assumption | (simp only [nm,beq_self_eq_true,Bool.and_self,Bool.and_true,List.length_map,hl3,hl62];first | done | assumption | omega),?_⟩ | refine Or.inr (Or.inl ⟨by first | assumption | (simp only [nm,beq_self_eq_true,Bool.and_self,Bool.and_true,List.length_map,hl3,hl62];first | done | assumption | omega),?_⟩) | (refine Or.inr (Or.inr ⟨fun hsp=>?_,fun hsp=>?_⟩) <;>(try simp only [nm,beq_self_eq_true,Bool.and_self,Bool.and_true,List.length_map,hl3,hl62] at hsp) <;>try subst hsp)) | refine ⟨_,_,kx,?_⟩ | refine sS (i4 (by rfl) (by rfl) (by omega) hrow) ?_ | fail)
  all_goals (conv=>whnf)
  all_goals (refine ih (m - 1) (i+1) _ (by omega) (by omega) (by (conv=>whnf);first | done | rfl | (simp (disch:=omega) only [H8])))
 ·repeat' ((conv=>whnf);first | (with_reducible refine sC (by kernel_rfl) ?_) | ((first | (with_reducible first | refine sB ?_ | refine A2 ?_ | refine A3 ?_) | refine sP (by rfl) ?_);first | refine Or.inl ⟨by first | assumption | (simp only [nm,beq_self_eq_true,Bool.and_self,Bool.and_true,List.length_map,hl3,hl62];first | done | assumption | omega),?_⟩ | refine Or.inr (Or.inl ⟨by first | assumption | (simp only [nm,beq_self_eq_true,Bool.and_self,Bool.and_true,List.length_map,hl3,hl62];first | done | assumption | omega),?_⟩) | (refine Or.inr (Or.inr ⟨fun hsp=>?_,fun hsp=>?_⟩) <;>(try simp only [nm,beq_self_eq_true,Bool.and_self,Bool.and_true,List.length_map,hl3,hl62] at hsp) <;>try subst hsp)) | fail)
  all_goals (conv=>whnf)
  intro Y hY hWY
  refine a6V hY (fun st (i:Nat)=>st.upd [(8,.pv (pI (i:Int)))] []) (fun i k=>i+k=ts.length) 0 ts.length (by (conv=>whnf);first | done | rfl) (by omega) ?_
  intro m i ih hI
  rcases a5u ts i with ⟨x,hlt,hx⟩ | hge2
  ·have hrow:s.f62[(i:Int).toNat]?=some (grO x):=by rw [h62];exact T4 (f:=grO) hx
   repeat' ((conv=>whnf);first | (with_reducible refine sC (by kernel_rfl) ?_) | ((first | (with_reducible first | refine sB ?_ | refine A2 ?_ | refine A3 ?_) | refine sP (by rfl) ?_);first | refine Or.inl ⟨by first | assumption | (simp only [nm,beq_self_eq_true,Bool.and_self,Bool.and_true,List.length_map,hl3,hl62];first | done | assumption | omega),?_⟩ | refine Or.inr (Or.inl ⟨by first | assumption | (simp only [nm,beq_self_eq_true,Bool.and_self,Bool.and_true,List.length_map,hl3,hl62];first | done | assumption | omega),?_⟩) | (refine Or.inr (Or.inr ⟨fun hsp=>?_,fun hsp=>?_⟩) <;>(try simp only [nm,beq_self_eq_true,Bool.and_self,Bool.and_true,List.length_map,hl3,hl62] at hsp) <;>try subst hsp)) | refine ⟨_,_,a6g C x,?_⟩ | refine sS (i4 (by rfl) (by rfl) (by omega) hrow) ?_ | fail)
   all_goals (conv=>whnf)
   all_goals (refine ih (m - 1) (i+1) _ (by omega) (by omega) (by (conv=>whnf);first | done | rfl | (simp (disch:=omega) only [H8])))
  ·repeat' ((conv=>whnf);first | (with_reducible refine sC (by kernel_rfl) ?_) | ((first | (with_reducible first | refine sB ?_ | refine A2 ?_ | refine A3 ?_) | refine sP (by rfl) ?_);first | refine Or.inl ⟨by first | assumption | (simp only [nm,beq_self_eq_true,Bool.and_self,Bool.and_true,List.length_map,hl3,hl62];first | done | assumption | omega),?_⟩ | refine Or.inr (Or.inl ⟨by first | assumption | (simp only [nm,beq_self_eq_true,Bool.and_self,Bool.and_true,List.length_map,hl3,hl62];first | done | assumption | omega),?_⟩) | (refine Or.inr (Or.inr ⟨fun hsp=>?_,fun hsp=>?_⟩) <;>(try simp only [nm,beq_self_eq_true,Bool.and_self,Bool.and_true,List.length_map,hl3,hl62] at hsp) <;>try subst hsp)) | refine ⟨_,_,a6g C s,?_⟩ | fail)
   all_goals (conv=>whnf)
   all_goals (first | exact PV.le.refl _ | (refine le_of_eq ?_;simp))
end Go.Ab.Td

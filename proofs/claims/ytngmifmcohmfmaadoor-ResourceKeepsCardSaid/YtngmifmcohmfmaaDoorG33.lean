/- A part of the proof: the texts TdRL, TdArg, TdFw, TdAl, TdAk, TdW11, TdHa, TdLr. Under: nothing. -/
import Derived.Test.YtngmifmcohmfmaaDoorG32
import Derived.Test.YtngmifmcohmfmaaDoorG25
import Derived.Test.YtngmifmcohmfmaaDoorG05
import Derived.Test.YtngmifmcohmfmaaDoorG27
import Derived.Test.YtngmifmcohmfmaaDoorG07
import Derived.KernelRfl
set_option linter.unusedVariables false
namespace Go.Ab.Td
set_option maxRecDepth 100000
set_option maxRecDepth 100000
open Go Go.Ab
variable {P:Program}
set_option linter.unusedSimpArgs false
attribute [local irreducible] j6
set_option maxHeartbeats 1000000 in
theorem J1 (C:Laid P) (l1 l2:List Ob) (hl:l1.length<2 ^ 62):l9 P G y1 [.sl 7 (List.map m6 l1),.sl 7 (List.map m6 l2)] [] (.bool (tt (l1=l2))):=by
 refine l7 C (a4j C) rfl ?_
 repeat' ((conv=>whnf);first | (with_reducible refine sC (by kernel_rfl) ?_) | ((first | (with_reducible first | refine sB ?_ | refine A2 ?_ | refine A3 ?_) | refine sP (by rfl) ?_);first | refine oT ?_ | refine oF ?_ | (refine Or.inr (Or.inr ⟨fun hsp=>?_,fun hsp=>?_⟩) <;>(try simp only [nm,List.length_map] at hsp) <;>try subst hsp)) | fail)
 all_goals (conv=>whnf)
 all_goals try (exact J2 (by intro e;subst e;simp_all))
 intro X hX hW
 refine a6V hX (fun st (a:Nat)=>st.upd [(5,.pv (pI (a:Int)))] []) (fun a m=>a+m=l1.length∧(l1.length=l2.length∧((l1=l2)=(l1.drop a=l2.drop a)))) 0 l1.length (by (conv=>whnf);first | done | rfl) (by simp;omega) ?_
 intro m i ih hI
 rcases a5u l1 i with ⟨x,hlt,hx⟩ | hge
 ·have hrow:=T4 (f:=m6) hx
  have hd:=a4N hx
  have hI2:=hI.2
  rw [hd] at hI2
  obtain ⟨y,hy⟩:∃ y,l2[i]?=some y:=⟨_,List.getElem?_eq_getElem (by omega)⟩
  have hrow2:=T4 (f:=m6) hy
  have hd2:=a4N hy
  rw [hd2,List.cons.injEq] at hI2
  repeat' ((conv=>whnf);first | (with_reducible refine sC (by kernel_rfl) ?_) | ((first | (with_reducible first | refine sB ?_ | refine A2 ?_ | refine A3 ?_) | refine sP (by rfl) ?_);first | refine oT ?_ | refine oF ?_ | (refine Or.inr (Or.inr ⟨fun hsp=>?_,fun hsp=>?_⟩) <;>(try simp only [nm,List.length_map] at hsp) <;>try subst hsp)) | refine sS (i4 (by rfl) (by rfl) (by omega) hrow) ?_ | refine sS (i4 (by rfl) (by rfl) (by omega) hrow2) ?_ | fail)
  all_goals (conv=>whnf)
  all_goals first
   | (refine ih (m - 1) (i+1) _ (by omega) ⟨by (try dsimp only);omega,?_⟩ (by (conv=>whnf);first | done | rfl | (simp (disch:=omega) only [H8])))
   | (with_reducible first | refine z9 ?_ | refine L9 ?_ | refine J2 ?_)
   | (refine N7 ?_;simp only [nm])
   | refine le_of_eq ?_
  all_goals (first | (have hd2:l2.drop i=[]:=List.drop_eq_nil_of_le (by omega);grind) | grind)
 ·have hd:l1.drop i=[]:=List.drop_eq_nil_of_le hge
  have hI2:=hI.2
  rw [hd] at hI2
  repeat' ((conv=>whnf);first | (with_reducible refine sC (by kernel_rfl) ?_) | ((first | (with_reducible first | refine sB ?_ | refine A2 ?_ | refine A3 ?_) | refine sP (by rfl) ?_);first | refine oT ?_ | refine oF ?_ | (refine Or.inr (Or.inr ⟨fun hsp=>?_,fun hsp=>?_⟩) <;>(try simp only [nm,List.length_map] at hsp) <;>try subst hsp)) | fail)
  all_goals (conv=>whnf)
  all_goals first
   | (with_reducible first | refine z9 ?_ | refine L9 ?_ | refine J2 ?_)
   | (refine N7 ?_;simp only [nm])
   | refine le_of_eq ?_
  all_goals (first | (have hd2:l2.drop i=[]:=List.drop_eq_nil_of_le (by omega);grind) | grind)
end Go.Ab.Td
namespace Go.Ab.Td
set_option maxRecDepth 100000
set_option maxRecDepth 100000
open Go Go.Ab Go.ChangeShapes
def a7G:List Ty:=[.int .u8,.int .u8,.int .u8,.int .i32,.str]
def b6k:List Ty:=[.sl a7G,.sl a7G,.sl [.int .u8]]
theorem b6O {n:Int} (h:(Lit.int .u8 n).wf=true):0≤n∧n<256:=by
 simp only [Lit.wf,Bool.and_eq_true,IntKind.min,IntKind.max,IntKind.signed,IntKind.bits] at h
 simp at h
 omega
theorem c2x {p:PV} (h:b0w (false,[.int .u8]) p):∃ n,p= .int .u8 n∧0≤n∧n<256:=by
 obtain ⟨qs,e,hl,h⟩:=h
 simp only [b0h] at e
 subst e
 have k:=h 0 _ _ rfl rfl
 cases k with
 | int w=>exact ⟨_,rfl,b6O w⟩
theorem c3n {n:Int} (h:(Lit.int .i32 n).wf=true): -2147483648≤n∧n≤2147483647:=by
 simp only [Lit.wf,Bool.and_eq_true,IntKind.min,IntKind.max,IntKind.signed,IntKind.bits] at h
 simp at h
 omega
def b3Y (qs:List PV) (ts:List Ty):Prop:=qs.length=ts.length∧∀ (j:Nat) (q:PV) (t:Ty),qs[j]?=some q→ts[j]?=some t→Has t q
theorem b3Y.split {qs:List PV} {ts r:List Ty} (h:b3Y qs (ts++r)):∃ a b,qs=a++b∧b3Y a ts∧b3Y b r:=by
 obtain ⟨hl,h⟩:=h
 simp only [List.length_append] at hl
 refine ⟨qs.take ts.length,qs.drop ts.length,(List.take_append_drop _ _).symm,⟨by simp;omega,fun j q t hq ht=>?_⟩,⟨by simp;omega,fun j q t hq ht=>?_⟩⟩
 ·have hj:j<ts.length:=(List.getElem?_eq_some_iff.1 ht).1
  rw [List.getElem?_take_of_lt hj] at hq
  exact h j q t hq (by rw [List.getElem?_append_left hj];exact ht)
 ·rw [List.getElem?_drop] at hq
  exact h _ q t hq (by rw [List.getElem?_append_right (by omega),Nat.add_sub_cancel_left];exact ht)
structure Wd where
 K:Int
 A:Int
 B:Int
 N:Int
 S:List UInt8
 hA:0≤A∧A<256
 hB:0≤B∧B<256
 hN: -2147483648≤N∧N≤2147483647
def Wd.row (w:Wd):List PV:=[.int .u8 w.K,.int .u8 w.A,.int .u8 w.B,.int .i32 w.N,.str w.S]
theorem b6o {qs:List PV} (h:b3Y qs a7G):∃ w:Wd,qs=w.row:=by
 obtain ⟨hl,h⟩:=h
 match qs,hl with
 | [a,b,c,d,e],_=>
   have k0:=h 0 _ _ rfl rfl
   have k1:=h 1 _ _ rfl rfl
   have k2:=h 2 _ _ rfl rfl
   have k3:=h 3 _ _ rfl rfl
   have k4:=h 4 _ _ rfl rfl
   cases k0 with
   | int w0=>
   cases k1 with
   | int w1=>
   cases k2 with
   | int w2=>
   cases k3 with
   | int w3=>
   cases k4 with
   | str w4=>exact ⟨⟨_,_,_,_,_,b6O w1,b6O w2,c3n w3⟩,rfl⟩
theorem c3l {p:PV} (h:b0w (true,b4c a7G 3) p):∃ a b c:Wd,p= .agg (a.row++(b.row++c.row)):=by
 obtain ⟨qs,e,hl,h⟩:=h
 simp only [b0h] at e
 subst e
 obtain ⟨a,q,rfl,h1,h2⟩:=b3Y.split ⟨hl,h⟩
 obtain ⟨b,q,rfl,g2,h3⟩:=b3Y.split h2
 obtain ⟨c,q,rfl,g3,h4⟩:=b3Y.split h3
 obtain ⟨a,rfl⟩:=b6o h1
 obtain ⟨b,rfl⟩:=b6o g2
 obtain ⟨c,rfl⟩:=b6o g3
 match q,h4.1 with
 | [],_=>exact ⟨a,b,c,by simp⟩
end Go.Ab.Td
namespace Go.Ab.Td
set_option maxRecDepth 100000
open Go Go.Ab
variable {P:Program}
set_option linter.unusedSimpArgs false
attribute [local irreducible] j6
end Go.Ab.Td
namespace Go.Ab.Td
set_option maxRecDepth 100000
open Go Go.Ab
end Go.Ab.Td
namespace Go.Ab.Td
set_option maxRecDepth 100000
set_option maxRecDepth 100000
open Go Go.Ab
theorem b5D {o:Ob} (hr:o.right) (hk:o.kind=3∨o.kind=4):o=⟨o.kind,o.exec,o.n,[],0,0,0⟩∧ -2147483648≤o.n∧o.n≤2147483648:=by
 obtain ⟨a,b,c,d,e,f⟩:=b7N hr hk
 have e2:o.name=[]:=List.length_eq_zero_iff.1 (by omega)
 refine ⟨?_,a,b⟩
 cases o;simp_all
theorem tdm {n:Int} (h:n.tmod 65536=0):n.tdiv 65536*65536=n:=by
 have:=Int.mul_tdiv_add_tmod n 65536
 omega
end Go.Ab.Td
namespace Go.Ab.Td.TdW11
set_option maxRecDepth 100000
set_option maxRecDepth 100000
open Go Go.Ab Go.Ab.Td
variable {P:Program}
set_option linter.unusedSimpArgs false
def a1T:TF:=(.node (.node (.node (.node (.node (.node (.node .nil (.node (.leaf I7 a2W) (.leaf F6 a0c))) (.leaf A8 a4z)) (.node (.leaf N4 a2c) (.leaf z7 G3))) (.node (.node .nil (.node (.leaf a5f a7i) (.leaf u4 a0b))) (.leaf x1 G2))) (.node (.node (.leaf L2 a0f) (.leaf L0 a2x)) (.node (.node (.leaf u2 R7) (.node (.node (.leaf a2i a4A) (.leaf y0 C4)) .nil)) (.node (.leaf V4 a3y) (.node (.node (.leaf I6 a1Y) (.leaf C6 M8)) .nil))))) (.node (.node (.node (.leaf M3 a5J) (.node (.leaf v8 M7) (.leaf A4 I1))) (.node (.node (.leaf x9 a1j) (.node (.leaf D4 a0e) (.leaf J4 a1i))) (.leaf W6 a1L))) (.node (.node (.node .nil (.node (.node (.leaf B5 a2X) (.leaf y4 K0)) (.leaf D3 Q3))) (.leaf z6 G1)) (.node (.node (.leaf w7 R8) (.node (.leaf K2 U2) (.leaf S5 a0N))) (.leaf a2j a4B))))) (.node (.node (.node (.node (.node (.leaf C9 a1Z) (.leaf N3 a4E)) (.node (.leaf O3 a1l) (.leaf L1 a0d))) (.leaf E6 W1)) (.node (.node (.node .nil (.node (.leaf x5 H9) (.leaf I9 a0a))) .nil) (.node (.leaf I8 Q2) (.leaf S6 a2b)))) (.node (.node (.node (.node .nil (.node (.node (.leaf Q9 a5I) (.leaf C3 O8)) (.leaf F1 a4F))) (.node .nil (.node (.leaf E7 W2) (.leaf Q8 Z9)))) (.leaf S1 a0M)) (.node (.node (.node .nil (.node (.leaf u5 D9) (.leaf F5 X1))) (.leaf B0 P6)) (.node (.node (.leaf B2 J9) (.node (.leaf a2k a4D) (.leaf V3 a3x))) (.node .nil (.node (.node (.leaf A9 a4C) (.leaf E0 P5)) .nil)))))))
def a1U:TF:=(.leaf a0t a2y)
def b5V:TF:=(.leaf Q8 Z9)
def b5W:TF:=(.leaf y0 C4)
def ext (_:Nat):Option a3t:=none
theorem c2S (C:Laid P):a1T.all (i5 P)=true:=by simp only [a1T,TF.all,b1L C,a8g C,a8h C,a9x C,a5T C,b5t C,b3m C,a6H C,b3o C,a9O C,a4Y C,b3n C,a7r C,a3b C,a0p C,b4v C,b3p C,a3c C,a1B C,a2B C,a2C C,a1N C,a3H C,a8T C,b1K C,a5U C,a5V C,a1p C,a8S C,a1a C,a5W C,a1b C,U4 C,a5b C,a3I C,Y2 C,a0J C,a2G C,Q6 C,U5 C,K8 C,a2F C,a0Z C,P1 C,a2E C,Q7 C,a1O C,O9 C,a0r C,P0 C,Y3 C,a5a C,a0q C,a2D C,Bool.and_self]
theorem c2U (C:Laid P):a1U.all (i5 P)=true:=by simp only [a1U,TF.all,b0T C,Bool.and_self]
theorem c2T (C:Laid P):b5V.all (i5 P)=true:=by simp only [b5V,TF.all,a5U C,Bool.and_self]
theorem a7q (C:Laid P):a0k P y0 C4=true:=by
 unfold a0k
 rw [a0Z C]
 kernel_rfl
theorem c2V (C:Laid P):b5W.all (a0k P)=true:=by simp only [b5W,TF.all,a7q C,Bool.and_self]
theorem b8S:a5t P G fun g=>(ext g).map b0H:=by
 intro g h hg
 cases hg
theorem b3s:∀ g ps own r,kn0 g ps=some (own,r)→l9 P G g ps own r:=fun _ _ _ _ h=>by cases h
theorem run:isR [] (.bool true) ((a4O G kn0 ext b5V.fn b5W.fn a1T.fn a1U.fn 10000 20).call V4 [])=true:=by kernel_rfl
theorem ok (C:Laid P):l9 P G V4 [] [] (.bool true):=a9b C.mixed b3s b8S (TF.i3 (c2T C)) (TF.i3 (c2V C)) (TF.i3 (c2S C)) (TF.i3 (c2U C)) (b5s run)
end Go.Ab.Td.TdW11
namespace Go.Ab.Td
set_option maxRecDepth 100000
set_option maxRecDepth 100000
open Go Go.Ab
variable {P:Program}
set_option linter.unusedSimpArgs false
attribute [local irreducible] j6
theorem b5Z (C:Laid P) {h:List Cl} (t:a1u h) (w:Wd):∃ o:Ob,o.n<9223372036854775808∧fits h o∧l9 P G i7 [.agg w.row,.sl 7 (List.map m9 h)] [] (.agg (m6 o)):=
 ⟨b3u h w.K w.A w.B w.N,c2C h _ _ _ _ w.hA w.hN,b4o t w.K w.A w.B w.N w.hA w.hB w.hN,a3k C h t.small w.K w.A w.B w.N w.S w.hA w.hB w.hN⟩
end Go.Ab.Td
namespace Go.Ab.Td
set_option maxRecDepth 100000
open Go Go.Ab
variable {P:Program}
set_option linter.unusedSimpArgs false
attribute [local irreducible] j6
end Go.Ab.Td

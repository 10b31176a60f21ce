/- A part of the proof: the texts TdRL, TdArg, TdFw, TdAl, TdAk, TdW11, TdHa, TdLr. Under: nothing. -/
import Derived.Test.YtngmifmcohmfmaaDoorG26
import Derived.Test.YtngmifmcohmfmaaDoorG23
import Derived.Test.YtngmifmcohmfmaaDoorG05
import Derived.Test.YtngmifmcohmfmaaDoorG25
import Derived.Test.YtngmifmcohmfmaaDoorG08
import Derived.KernelRfl
set_option linter.unusedVariables false
namespace Go.Ab.Td
set_option maxRecDepth 100000
set_option maxRecDepth 100000
open Go Go.Ab
variable {P:Program}
set_option linter.unusedSimpArgs false
attribute [local irreducible] e9
theorem c4I {h:List Cl} {o:Ob} (hv:a9p h o [7,8]=0):(0≤o.ref∧o.ref<h.length)∧(0≤o.off∧0≤o.len∧o.off+o.len≤1000)∧o.off+o.len≤(cellAt h o).items.length:=by
 obtain ⟨⟨hr1,hr2⟩,⟨hf1,hf2,hf3⟩,hk,hc⟩:=b4h hv
 have hk7:o.kind=7∨o.kind=8:=by simpa using hk
 have hck:H4 o.kind=2:=by unfold H4;rw [if_neg (by omega),if_pos hk7]
 obtain ⟨hc3,hc4,hc5⟩:=hc.resolve_left (by rw [hck];decide)
 refine ⟨⟨hr1,by omega⟩,⟨hf1,hf2,hf3⟩,?_⟩
 rcases hc5 with h5 | h5 | h5
 ·omega
 ·omega
 ·rw [hck] at hc4
  simpa [Cl.length,hc4] using h5
open Classical in
noncomputable def c0A (o:Ob) (off n:Int):Ob × Int:=
 if ¬ o.right then (ob0,2) else if o.kind≠6∧o.kind≠7∧o.kind≠8 then (ob0,22)
 else if off<0∨n<0∨off>o.len∨n>IntKind.i64.wrap (o.len - off) then (ob0,23) else ({o with off:=IntKind.i64.wrap (o.off+off),len:=n},0)
set_option maxHeartbeats 1000000 in
theorem L8 (C:Laid P) (l1 l2:List Ob) (hl:l1.length<2 ^ 62):j4 P G u5 [.sl 7 (List.map i4 l1),.sl 7 (List.map i4 l2)] [] (.bool (tt (l1=l2))):=by
 refine i5 C (a1I C) rfl ?_
 repeat' ((conv=>whnf);first | (with_reducible refine sC (by kernel_rfl) ?_) | ((first | (with_reducible first | refine sB ?_ | refine o5 ?_ | refine o6 ?_) | refine sP (by rfl) ?_);first | refine oT ?_ | refine oF ?_ | (refine Or.inr (Or.inr ⟨fun hsp=>?_,fun hsp=>?_⟩) <;>(try simp only [nm,List.length_map] at hsp) <;>try subst hsp)) | fail)
 all_goals (conv=>whnf)
 all_goals try (exact y3 (by intro e;subst e;simp_all))
 intro X hX hW
 refine a2s hX (fun st (a:Nat)=>st.upd [(5,.pv (pI (a:Int)))] []) (fun a m=>a+m=l1.length∧(l1.length=l2.length∧((l1=l2)=(l1.drop a=l2.drop a)))) 0 l1.length (by (conv=>whnf);first | done | rfl) (by simp;omega) ?_
 intro m i ih hI
 rcases a0J l1 i with ⟨x,hlt,hx⟩ | hge
 ·have hrow:=y9 (f:=i4) hx
  have hd:=W1 hx
  have hI2:=hI.2
  rw [hd] at hI2
  obtain ⟨y,hy⟩:∃ y,l2[i]?=some y:=⟨_,List.getElem?_eq_getElem (by omega)⟩
  have hrow2:=y9 (f:=i4) hy
  have hd2:=W1 hy
  rw [hd2,List.cons.injEq] at hI2
  repeat' ((conv=>whnf);first | (with_reducible refine sC (by kernel_rfl) ?_) | ((first | (with_reducible first | refine sB ?_ | refine o5 ?_ | refine o6 ?_) | refine sP (by rfl) ?_);first | refine oT ?_ | refine oF ?_ | (refine Or.inr (Or.inr ⟨fun hsp=>?_,fun hsp=>?_⟩) <;>(try simp only [nm,List.length_map] at hsp) <;>try subst hsp)) | refine sS (e7 (by rfl) (by rfl) (by omega) hrow) ?_ | refine sS (e7 (by rfl) (by rfl) (by omega) hrow2) ?_ | fail)
  all_goals (conv=>whnf)
  all_goals first
   | (refine ih (m - 1) (i+1) _ (by omega) ⟨by (try dsimp only);omega,?_⟩ (by (conv=>whnf);first | done | rfl | (simp (disch:=omega) only [A7])))
   | (with_reducible first | refine j9 ?_ | refine A0 ?_ | refine y3 ?_)
   | (refine A3 ?_;simp only [nm])
   | refine le_of_eq ?_
  all_goals (first | (have hd2:l2.drop i=[]:=List.drop_eq_nil_of_le (by omega);grind) | grind)
 ·have hd:l1.drop i=[]:=List.drop_eq_nil_of_le hge
  have hI2:=hI.2
  rw [hd] at hI2
  repeat' ((conv=>whnf);first | (with_reducible refine sC (by kernel_rfl) ?_) | ((first | (with_reducible first | refine sB ?_ | refine o5 ?_ | refine o6 ?_) | refine sP (by rfl) ?_);first | refine oT ?_ | refine oF ?_ | (refine Or.inr (Or.inr ⟨fun hsp=>?_,fun hsp=>?_⟩) <;>(try simp only [nm,List.length_map] at hsp) <;>try subst hsp)) | fail)
  all_goals (conv=>whnf)
  all_goals first
   | (with_reducible first | refine j9 ?_ | refine A0 ?_ | refine y3 ?_)
   | (refine A3 ?_;simp only [nm])
   | refine le_of_eq ?_
  all_goals (first | (have hd2:l2.drop i=[]:=List.drop_eq_nil_of_le (by omega);grind) | grind)
end Go.Ab.Td
namespace Go.Ab.Td
set_option maxRecDepth 100000
set_option maxRecDepth 100000
open Go Go.Ab Go.ChangeShapes
def a5b:List Ty:=[.int .u8,.int .u8,.int .u8,.int .i32,.str]
def c0q:List Ty:=[.sl a5b,.sl a5b,.sl [.int .u8]]
theorem c1a {n:Int} (h:(Lit.int .u8 n).wf=true):0≤n∧n<256:=by
 simp only [Lit.wf,Bool.and_eq_true,IntKind.min,IntKind.max,IntKind.signed,IntKind.bits] at h
 simp at h
 omega
theorem c6W {n:Int} (h:(Lit.int .i32 n).wf=true): -2147483648≤n∧n≤2147483647:=by
 simp only [Lit.wf,Bool.and_eq_true,IntKind.min,IntKind.max,IntKind.signed,IntKind.bits] at h
 simp at h
 omega
def b7n (qs:List PV) (ts:List Ty):Prop:=qs.length=ts.length∧∀ (j:Nat) (q:PV) (t:Ty),qs[j]?=some q→ts[j]?=some t→Has t q
theorem b7n.split {qs:List PV} {ts r:List Ty} (h:b7n qs (ts++r)):∃ a b,qs=a++b∧b7n a ts∧b7n b r:=by
 obtain ⟨hl,h⟩:=h
 simp only [List.length_append] at hl
 refine ⟨qs.take ts.length,qs.drop ts.length,(List.take_append_drop _ _).symm,⟨by simp;omega,fun j q t hq ht=>?_⟩,⟨by simp;omega,fun j q t hq ht=>?_⟩⟩
 ·have hj:j<ts.length:=(List.getElem?_eq_some_iff.1 ht).1
  rw [List.getElem?_take_of_lt hj] at hq
  exact h j q t hq (by rw [List.getElem?_append_left hj];exact ht)
 ·rw [List.getElem?_drop] at hq
  exact h _ q t hq (by rw [List.getElem?_append_right (by omega),Nat.add_sub_cancel_left];exact ht)
structure Wd where
 K:Int
 A:Int
 B:Int
 N:Int
 S:List UInt8
 hA:0≤A∧A<256
 hB:0≤B∧B<256
 hN: -2147483648≤N∧N≤2147483647
def Wd.row (w:Wd):List PV:=[.int .u8 w.K,.int .u8 w.A,.int .u8 w.B,.int .i32 w.N,.str w.S]
theorem c6h {qs:List PV} (h:b7n qs a5b):∃ w:Wd,qs=w.row:=by
 obtain ⟨hl,h⟩:=h
 match qs,hl with
 | [a,b,c,d,e],_=>
   have k0:=h 0 _ _ rfl rfl
   have k1:=h 1 _ _ rfl rfl
   have k2:=h 2 _ _ rfl rfl
   have k3:=h 3 _ _ rfl rfl
   have k4:=h 4 _ _ rfl rfl
   cases k0 with
   | int w0=>
   cases k1 with
   | int w1=>
   cases k2 with
   | int w2=>
   cases k3 with
   | int w3=>
   cases k4 with
   | str w4=>exact ⟨⟨_,_,_,_,_,c1a w1,c1a w2,c6W w3⟩,rfl⟩
end Go.Ab.Td
namespace Go.Ab.Td
set_option maxRecDepth 100000
open Go Go.Ab
variable {P:Program}
set_option linter.unusedSimpArgs false
attribute [local irreducible] e9
end Go.Ab.Td
namespace Go.Ab.Td
set_option maxRecDepth 100000
open Go Go.Ab
end Go.Ab.Td
namespace Go.Ab.Td
set_option maxRecDepth 100000
open Go Go.Ab
end Go.Ab.Td
namespace Go.Ab.Td.TdW11
set_option maxRecDepth 100000
set_option maxRecDepth 100000
open Go Go.Ab Go.Ab.Td
variable {P:Program}
set_option linter.unusedSimpArgs false
def a1l:TF:=(.node (.node (.node (.node (.node (.node (.node .nil (.node (.leaf V1 a4f) (.leaf H7 a0N))) (.leaf K8 a5V)) (.node (.leaf Q4 a2T) (.leaf z7 C5))) (.node (.node .nil (.node (.leaf a6t a8M) (.leaf n8 U5))) (.leaf v8 I4))) (.node (.node (.leaf H8 U6) (.leaf O0 a3y)) (.node (.node (.leaf o8 N3) (.node (.node (.leaf a3d a5W) (.leaf x9 C8)) .nil)) (.node (.leaf Z0 a4F) (.node (.node (.leaf Q2 a2N) (.leaf D3 H3)) .nil))))) (.node (.node (.node (.leaf P0 a7b) (.node (.leaf s9 P6) (.leaf E4 K4))) (.node (.node (.leaf z8 Y6) (.node (.leaf E3 a0P) (.leaf G5 Y5))) (.leaf J6 Z9))) (.node (.node (.node .nil (.node (.node (.leaf B5 a2k) (.leaf u6 F3)) (.leaf E2 U4))) (.leaf v7 C4)) (.node (.node (.leaf y0 N4) (.node (.leaf M9 X9) (.leaf W6 a1u))) (.leaf a3e a5X))))) (.node (.node (.node (.node (.node (.leaf Q3 a2O) (.leaf G1 a2P)) (.node (.leaf Z3 a1Q) (.leaf O2 a0O))) (.leaf B6 R0)) (.node (.node (.node .nil (.node (.leaf q0 D9) (.leaf K9 a0M))) .nil) (.node (.leaf E1 K3) (.leaf W7 a2S)))) (.node (.node (.node (.node .nil (.node (.node (.leaf O9 a4g) (.leaf C6 S5)) (.leaf G2 a6a))) (.node .nil (.node (.leaf R2 a0a) (.leaf V2 a0L)))) (.leaf O1 V8)) (.node (.node (.node .nil (.node (.leaf m9 A4) (.leaf H6 a0j))) (.leaf B0 T4)) (.node (.node (.leaf F4 M7) (.node (.leaf a3f a5Z) (.leaf Y9 a4E))) (.node .nil (.node (.node (.leaf a0v a5Y) (.leaf E7 T3)) .nil)))))))
def a1m:TF:=(.leaf a1d a3z)
def b4e:TF:=(.leaf V2 a0L)
def b4f:TF:=(.leaf x9 C8)
def ext (_:Nat):Option a3v:=none
theorem c2N (C:Laid P):a1l.all (b9 P)=true:=by simp only [a1l,TF.all,b4r C,a9V C,a6m C,a7p C,a4n C,b8R C,b6r C,a8d C,b6t C,a6I C,a9U C,b6s C,b3o C,b1K C,a9W C,b7I C,b6u C,a4o C,a2p C,a3E C,a0X C,a0e C,a1U C,b0V C,b4q C,a7o C,a7q C,a4N C,a5x C,a1F C,a2o C,a1G C,a2I C,a6p C,a8A C,a0s C,a1r C,a0Y C,K7 C,M8 C,E6 C,a3H C,a1E C,S9 C,a3G C,a2q C,a6J C,I5 C,a1a C,S7 C,a0t C,a6o C,a0Z C,a3F C,Bool.and_self]
theorem c2P (C:Laid P):a1m.all (b9 P)=true:=by simp only [a1m,TF.all,b3p C,Bool.and_self]
theorem c2O (C:Laid P):b4e.all (b9 P)=true:=by simp only [b4e,TF.all,a7o C,Bool.and_self]
theorem a8S (C:Laid P):P7 P x9 C8=true:=by
 unfold P7
 rw [a1E C]
 kernel_rfl
theorem c2Q (C:Laid P):b4f.all (P7 P)=true:=by simp only [b4f,TF.all,a8S C,Bool.and_self]
theorem b5l:a5f P G fun g=>(ext g).map a7j:=by
 intro g h hg
 cases hg
theorem b0c:∀ g ps own r,kn0 g ps=some (own,r)→j4 P G g ps own r:=fun _ _ _ _ h=>by cases h
theorem run:isR [] (.bool true) ((a5p G kn0 ext b4e.fn b4f.fn a1l.fn a1m.fn 10000 20).call Z0 [])=true:=by kernel_rfl
theorem ok (C:Laid P):j4 P G Z0 [] [] (.bool true):=a7T C.mixed b0c b5l (TF.b8 (c2O C)) (TF.b8 (c2Q C)) (TF.b8 (c2N C)) (TF.b8 (c2P C)) (b6q run)
end Go.Ab.Td.TdW11
namespace Go.Ab.Td
set_option maxRecDepth 100000
open Go Go.Ab
variable {P:Program}
set_option linter.unusedSimpArgs false
attribute [local irreducible] e9
end Go.Ab.Td
namespace Go.Ab.Td
set_option maxRecDepth 100000
open Go Go.Ab
variable {P:Program}
set_option linter.unusedSimpArgs false
attribute [local irreducible] e9
end Go.Ab.Td

/- A part of the proof: the texts TdRL, TdArg, TdFw, TdAl, TdAk, TdW11, TdHa, TdLr. Under: nothing. -/
import Derived.Test.YtngmifmcohmfmaaDoorG25
import Derived.Test.YtngmifmcohmfmaaDoorG22
import Derived.Test.YtngmifmcohmfmaaDoorG05
import Derived.Test.YtngmifmcohmfmaaDoorG24
import Derived.Test.YtngmifmcohmfmaaDoorG07
import Derived.KernelRfl
set_option linter.unusedVariables false
namespace Go.Ab.Td
set_option maxRecDepth 100000
set_option maxRecDepth 100000
open Go Go.Ab
variable {P:Program}
set_option linter.unusedSimpArgs false
attribute [local irreducible] f0
theorem c4l {h:List Cl} {o:Ob} (hv:a8X h o [7,8]=0):(0≤o.ref∧o.ref<h.length)∧(0≤o.off∧0≤o.len∧o.off+o.len≤1000)∧o.off+o.len≤(cellAt h o).items.length:=by
 obtain ⟨⟨hr1,hr2⟩,⟨hf1,hf2,hf3⟩,hk,hc⟩:=b3U hv
 have hk7:o.kind=7∨o.kind=8:=by simpa using hk
 have hck:G9 o.kind=2:=by unfold G9;rw [if_neg (by omega),if_pos hk7]
 obtain ⟨hc3,hc4,hc5⟩:=hc.resolve_left (by rw [hck];decide)
 refine ⟨⟨hr1,by omega⟩,⟨hf1,hf2,hf3⟩,?_⟩
 rcases hc5 with h5 | h5 | h5
 ·omega
 ·omega
 ·rw [hck] at hc4
  simpa [Cl.length,hc4] using h5
open Classical in
noncomputable def b9M (o:Ob) (off n:Int):Ob × Int:=
 if ¬ o.right then (ob0,2) else if o.kind≠6∧o.kind≠7∧o.kind≠8 then (ob0,22)
 else if off<0∨n<0∨off>o.len∨n>IntKind.i64.wrap (o.len - off) then (ob0,23) else ({o with off:=IntKind.i64.wrap (o.off+off),len:=n},0)
set_option maxHeartbeats 1000000 in
theorem L2 (C:Laid P) (l1 l2:List Ob) (hl:l1.length<2 ^ 62):j5 P G u7 [.sl 7 (List.map g8 l1),.sl 7 (List.map g8 l2)] [] (.bool (tt (l1=l2))):=by
 refine i5 C (a1G C) rfl ?_
 repeat' ((conv=>whnf);first | (with_reducible refine sC (by kernel_rfl) ?_) | ((first | (with_reducible first | refine sB ?_ | refine p8 ?_ | refine p9 ?_) | refine sP (by rfl) ?_);first | refine oT ?_ | refine oF ?_ | (refine Or.inr (Or.inr ⟨fun hsp=>?_,fun hsp=>?_⟩) <;>(try simp only [nm,List.length_map] at hsp) <;>try subst hsp)) | fail)
 all_goals (conv=>whnf)
 all_goals try (exact y5 (by intro e;subst e;simp_all))
 intro X hX hW
 refine a2p hX (fun st (a:Nat)=>st.upd [(5,.pv (pI (a:Int)))] []) (fun a m=>a+m=l1.length∧(l1.length=l2.length∧((l1=l2)=(l1.drop a=l2.drop a)))) 0 l1.length (by (conv=>whnf);first | done | rfl) (by simp;omega) ?_
 intro m i ih hI
 rcases a0t l1 i with ⟨x,hlt,hx⟩ | hge
 ·have hrow:=y3 (f:=g8) hx
  have hd:=Z8 hx
  have hI2:=hI.2
  rw [hd] at hI2
  obtain ⟨y,hy⟩:∃ y,l2[i]?=some y:=⟨_,List.getElem?_eq_getElem (by omega)⟩
  have hrow2:=y3 (f:=g8) hy
  have hd2:=Z8 hy
  rw [hd2,List.cons.injEq] at hI2
  repeat' ((conv=>whnf);first | (with_reducible refine sC (by kernel_rfl) ?_) | ((first | (with_reducible first | refine sB ?_ | refine p8 ?_ | refine p9 ?_) | refine sP (by rfl) ?_);first | refine oT ?_ | refine oF ?_ | (refine Or.inr (Or.inr ⟨fun hsp=>?_,fun hsp=>?_⟩) <;>(try simp only [nm,List.length_map] at hsp) <;>try subst hsp)) | refine sS (e7 (by rfl) (by rfl) (by omega) hrow) ?_ | refine sS (e7 (by rfl) (by rfl) (by omega) hrow2) ?_ | fail)
  all_goals (conv=>whnf)
  all_goals first
   | (refine ih (m - 1) (i+1) _ (by omega) ⟨by (try dsimp only);omega,?_⟩ (by (conv=>whnf);first | done | rfl | (simp (disch:=omega) only [A0])))
   | (with_reducible first | refine l0 ?_ | refine A3 ?_ | refine y5 ?_)
   | (refine A4 ?_;simp only [nm])
   | refine le_of_eq ?_
  all_goals (first | (have hd2:l2.drop i=[]:=List.drop_eq_nil_of_le (by omega);grind) | grind)
 ·have hd:l1.drop i=[]:=List.drop_eq_nil_of_le hge
  have hI2:=hI.2
  rw [hd] at hI2
  repeat' ((conv=>whnf);first | (with_reducible refine sC (by kernel_rfl) ?_) | ((first | (with_reducible first | refine sB ?_ | refine p8 ?_ | refine p9 ?_) | refine sP (by rfl) ?_);first | refine oT ?_ | refine oF ?_ | (refine Or.inr (Or.inr ⟨fun hsp=>?_,fun hsp=>?_⟩) <;>(try simp only [nm,List.length_map] at hsp) <;>try subst hsp)) | fail)
  all_goals (conv=>whnf)
  all_goals first
   | (with_reducible first | refine l0 ?_ | refine A3 ?_ | refine y5 ?_)
   | (refine A4 ?_;simp only [nm])
   | refine le_of_eq ?_
  all_goals (first | (have hd2:l2.drop i=[]:=List.drop_eq_nil_of_le (by omega);grind) | grind)
end Go.Ab.Td
namespace Go.Ab.Td
set_option maxRecDepth 100000
set_option maxRecDepth 100000
open Go Go.Ab Go.ChangeShapes
def a6o:List Ty:=[.int .u8,.int .u8,.int .u8,.int .i32,.str]
def b9C:List Ty:=[.sl a6o,.sl a6o,.sl [.int .u8]]
theorem b8j {n:Int} (h:(Lit.int .u8 n).wf=true):0≤n∧n<256:=by
 simp only [Lit.wf,Bool.and_eq_true,IntKind.min,IntKind.max,IntKind.signed,IntKind.bits] at h
 simp at h
 omega
theorem c8K {p:PV} (h:b2E (false,[.int .u8]) p):∃ n,p= .int .u8 n∧0≤n∧n<256:=by
 obtain ⟨qs,e,hl,h⟩:=h
 simp only [b2f] at e
 subst e
 have k:=h 0 _ _ rfl rfl
 cases k with
 | int w=>exact ⟨_,rfl,b8j w⟩
theorem c6B {n:Int} (h:(Lit.int .i32 n).wf=true): -2147483648≤n∧n≤2147483647:=by
 simp only [Lit.wf,Bool.and_eq_true,IntKind.min,IntKind.max,IntKind.signed,IntKind.bits] at h
 simp at h
 omega
def b6Y (qs:List PV) (ts:List Ty):Prop:=qs.length=ts.length∧∀ (j:Nat) (q:PV) (t:Ty),qs[j]?=some q→ts[j]?=some t→Has t q
theorem b6Y.split {qs:List PV} {ts r:List Ty} (h:b6Y qs (ts++r)):∃ a b,qs=a++b∧b6Y a ts∧b6Y b r:=by
 obtain ⟨hl,h⟩:=h
 simp only [List.length_append] at hl
 refine ⟨qs.take ts.length,qs.drop ts.length,(List.take_append_drop _ _).symm,⟨by simp;omega,fun j q t hq ht=>?_⟩,⟨by simp;omega,fun j q t hq ht=>?_⟩⟩
 ·have hj:j<ts.length:=(List.getElem?_eq_some_iff.1 ht).1
  rw [List.getElem?_take_of_lt hj] at hq
  exact h j q t hq (by rw [List.getElem?_append_left hj];exact ht)
 ·rw [List.getElem?_drop] at hq
  exact h _ q t hq (by rw [List.getElem?_append_right (by omega),Nat.add_sub_cancel_left];exact ht)
structure Wd where
 K:Int
 A:Int
 B:Int
 N:Int
 S:List UInt8
 hA:0≤A∧A<256
 hB:0≤B∧B<256
 hN: -2147483648≤N∧N≤2147483647
def Wd.row (w:Wd):List PV:=[.int .u8 w.K,.int .u8 w.A,.int .u8 w.B,.int .i32 w.N,.str w.S]
theorem c5L {qs:List PV} (h:b6Y qs a6o):∃ w:Wd,qs=w.row:=by
 obtain ⟨hl,h⟩:=h
 match qs,hl with
 | [a,b,c,d,e],_=>
   have k0:=h 0 _ _ rfl rfl
   have k1:=h 1 _ _ rfl rfl
   have k2:=h 2 _ _ rfl rfl
   have k3:=h 3 _ _ rfl rfl
   have k4:=h 4 _ _ rfl rfl
   cases k0 with
   | int w0=>
   cases k1 with
   | int w1=>
   cases k2 with
   | int w2=>
   cases k3 with
   | int w3=>
   cases k4 with
   | str w4=>exact ⟨⟨_,_,_,_,_,b8j w1,b8j w2,c6B w3⟩,rfl⟩
end Go.Ab.Td
namespace Go.Ab.Td
set_option maxRecDepth 100000
open Go Go.Ab
variable {P:Program}
set_option linter.unusedSimpArgs false
attribute [local irreducible] f0
end Go.Ab.Td
namespace Go.Ab.Td
set_option maxRecDepth 100000
open Go Go.Ab
end Go.Ab.Td
namespace Go.Ab.Td
set_option maxRecDepth 100000
open Go Go.Ab
end Go.Ab.Td
namespace Go.Ab.Td.TdW11
set_option maxRecDepth 100000
set_option maxRecDepth 100000
open Go Go.Ab Go.Ab.Td
variable {P:Program}
set_option linter.unusedSimpArgs false
def a1j:TF:=(.node (.node (.node (.node (.node (.node (.node .nil (.node (.leaf U4 a3Y) (.leaf H4 a0J))) (.leaf K3 a5F)) (.node (.leaf P9 a2T) (.leaf z8 C3))) (.node (.node .nil (.node (.leaf a6c a8x) (.leaf o4 T9))) (.leaf v9 I1))) (.node (.node (.leaf H5 U0) (.leaf N6 a3w)) (.node (.node (.leaf o9 M8) (.node (.node (.leaf a3d a5G) (.leaf y0 C5)) .nil)) (.node (.leaf Y5 a4x) (.node (.node (.leaf P7 a2N) (.leaf C9 G8)) .nil))))) (.node (.node (.node (.leaf O5 a6L) (.node (.leaf u1 P2) (.leaf E1 J8))) (.node (.node (.leaf A2 Y0) (.node (.leaf E0 a0L) (.leaf G0 X9))) (.leaf J2 Z4))) (.node (.node (.node .nil (.node (.node (.leaf A6 a2h) (.leaf u9 F0)) (.leaf D9 T8))) (.leaf v8 C2)) (.node (.node (.leaf y1 M9) (.node (.leaf M4 X4) (.leaf W0 a1t))) (.leaf a3e a5H))))) (.node (.node (.node (.node (.node (.leaf P8 a2O) (.leaf F7 a2P)) (.node (.leaf Y9 a1O) (.leaf N8 a0K))) (.leaf B5 Q7)) (.node (.node (.node .nil (.node (.leaf r9 D6) (.leaf K4 a0I))) .nil) (.node (.leaf D8 J7) (.leaf W1 a2S)))) (.node (.node (.node (.node .nil (.node (.node (.leaf O4 a3Z) (.leaf C4 S0)) (.leaf F8 a5K))) (.node .nil (.node (.leaf Q9 Z5) (.leaf U5 a0H)))) (.leaf N7 V2)) (.node (.node (.node .nil (.node (.leaf n7 A5) (.leaf H3 a0g))) (.leaf B1 S8)) (.node (.node (.leaf F1 M1) (.node (.leaf a3f a5J) (.leaf Y4 a4w))) (.node .nil (.node (.node (.leaf a0s a5I) (.leaf E4 S7)) .nil)))))))
def a1k:TF:=(.leaf a0Z a3x)
def b3R:TF:=(.leaf U5 a0H)
def b3S:TF:=(.leaf y0 C5)
def ext (_:Nat):Option a2w:=none
theorem c2j (C:Laid P):a1j.all (d8 P)=true:=by simp only [a1j,TF.all,b4g C,a9B C,a5W C,a6Y C,a4g C,b8z C,b6d C,a7O C,b6f C,a6r C,a9A C,b6e C,b3b C,b1u C,a9C C,b7r C,b6g C,a4h C,a2m C,a3B C,a0T C,a0b C,a1R C,b0D C,b4f C,a6X C,a6Z C,a4F C,a5j C,a1D C,a2l C,a1E C,a2H C,a5Y C,a8l C,a0q C,a1p C,a0U C,K2 C,M3 C,E3 C,a3E C,a1C C,S4 C,a3D C,a2n C,a6s C,I2 C,a0W C,S2 C,a0r C,a5X C,a0V C,a3C C,Bool.and_self]
theorem c2l (C:Laid P):a1k.all (d8 P)=true:=by simp only [a1k,TF.all,b3c C,Bool.and_self]
theorem c2k (C:Laid P):b3R.all (d8 P)=true:=by simp only [b3R,TF.all,a6X C,Bool.and_self]
theorem a8D (C:Laid P):N3 P y0 C5=true:=by
 unfold N3
 rw [a1C C]
 kernel_rfl
theorem c2m (C:Laid P):b3S.all (N3 P)=true:=by simp only [b3S,TF.all,a8D C,Bool.and_self]
theorem b7j:a3X P G fun g=>(ext g).map a6D:=by
 intro g h hg
 cases hg
theorem a9J:∀ g ps own r,kn0 g ps=some (own,r)→j5 P G g ps own r:=fun _ _ _ _ h=>by cases h
theorem run:isR [] (.bool true) ((a5b G kn0 ext b3R.fn b3S.fn a1j.fn a1k.fn 10000 20).call Y5 [])=true:=by kernel_rfl
theorem ok (C:Laid P):j5 P G Y5 [] [] (.bool true):=a7D C.mixed a9J b7j (TF.d6 (c2k C)) (TF.d6 (c2m C)) (TF.d6 (c2j C)) (TF.d6 (c2l C)) (b6c run)
end Go.Ab.Td.TdW11
namespace Go.Ab.Td
set_option maxRecDepth 100000
open Go Go.Ab
variable {P:Program}
set_option linter.unusedSimpArgs false
attribute [local irreducible] f0
end Go.Ab.Td
namespace Go.Ab.Td
set_option maxRecDepth 100000
open Go Go.Ab
variable {P:Program}
set_option linter.unusedSimpArgs false
attribute [local irreducible] f0
end Go.Ab.Td

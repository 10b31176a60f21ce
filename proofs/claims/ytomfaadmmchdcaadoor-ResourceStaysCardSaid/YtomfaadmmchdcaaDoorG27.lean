/- A part of the proof: the texts TdRI, TdRK, TdEq, TdEr, TdRL, TdArg, TdFw, TdAl, TdAk, TdW11, TdHa, TdLr, TdSm. Under: nothing. -/
import Derived.Test.YtomfaadmmchdcaaDoorG19
import Derived.Test.YtomfaadmmchdcaaDoorG20
import Derived.Test.YtomfaadmmchdcaaDoorG05
import Derived.Test.YtomfaadmmchdcaaDoorG21
import Derived.Test.YtomfaadmmchdcaaDoorG07
import Derived.KernelRfl
set_option linter.unusedVariables false
namespace Go.Ab.Td
set_option maxRecDepth 100000
open Go Go.Ab
variable {P:Program}
set_option linter.unusedSimpArgs false
attribute [local irreducible] g8
noncomputable def oct (h:List Cl) (o:Ob):Option (List UInt8):=if o.kind=5 then some o.name else if o.kind=6 then some (sub h o) else none
end Go.Ab.Td
namespace Go.Ab.Td
set_option maxRecDepth 100000
open Go Go.Ab
variable {P:Program}
set_option linter.unusedSimpArgs false
attribute [local irreducible] g8
open Classical in
noncomputable def eqv (h:List Cl) (a b:Ob):Prop:=if ¬ fits h a∨¬ fits h b then False else if a.isNum∧b.isNum then a.val=b.val else if (oct h a).isSome=true∧(oct h b).isSome=true then (oct h a).getD []=(oct h b).getD [] else ({a with exec:=false}:Ob)={b with exec:=false}
end Go.Ab.Td
namespace Go.Ab.Td
set_option maxRecDepth 100000
open Go Go.Ab
variable {P:Program}
set_option linter.unusedSimpArgs false
attribute [local irreducible] g8
end Go.Ab.Td
namespace Go.Ab.Td
set_option maxRecDepth 100000
open Go Go.Ab
variable {P:Program}
set_option linter.unusedSimpArgs false
attribute [local irreducible] g8
end Go.Ab.Td
namespace Go.Ab.Td
set_option maxRecDepth 100000
set_option maxRecDepth 100000
open Go Go.Ab
variable {P:Program}
set_option linter.unusedSimpArgs false
attribute [local irreducible] g8
set_option maxHeartbeats 1000000 in
theorem J9 (C:Laid P) (l1 l2:List Ob) (hl:l1.length<2 ^ 62):l8 P G y1 [.sl 7 (List.map i4 l1),.sl 7 (List.map i4 l2)] [] (.bool (tt (l1=l2))):=by
 refine j3 C (a4K C) rfl ?_
 repeat' ((conv=>whnf);first | (with_reducible refine sC (by kernel_rfl) ?_) | ((first | (with_reducible first | refine sB ?_ | refine x4 ?_ | refine x5 ?_) | refine sP (by rfl) ?_);first | refine oT ?_ | refine oF ?_ | (refine Or.inr (Or.inr ⟨fun hsp=>?_,fun hsp=>?_⟩) <;>(try simp only [nm,List.length_map] at hsp) <;>try subst hsp)) | fail)
 all_goals (conv=>whnf)
 all_goals try (exact K1 (by intro e;subst e;simp_all))
 intro X hX hW
 refine a7C hX (fun st (a:Nat)=>st.upd [(5,.pv (pI (a:Int)))] []) (fun a m=>a+m=l1.length∧(l1.length=l2.length∧((l1=l2)=(l1.drop a=l2.drop a)))) 0 l1.length (by (conv=>whnf);first | done | rfl) (by simp;omega) ?_
 intro m i ih hI
 rcases a7o l1 i with ⟨x,hlt,hx⟩ | hge
 ·have hrow:=Y5 (f:=i4) hx
  have hd:=a3J hx
  have hI2:=hI.2
  rw [hd] at hI2
  obtain ⟨y,hy⟩:∃ y,l2[i]?=some y:=⟨_,List.getElem?_eq_getElem (by omega)⟩
  have hrow2:=Y5 (f:=i4) hy
  have hd2:=a3J hy
  rw [hd2,List.cons.injEq] at hI2
  repeat' ((conv=>whnf);first | (with_reducible refine sC (by kernel_rfl) ?_) | ((first | (with_reducible first | refine sB ?_ | refine x4 ?_ | refine x5 ?_) | refine sP (by rfl) ?_);first | refine oT ?_ | refine oF ?_ | (refine Or.inr (Or.inr ⟨fun hsp=>?_,fun hsp=>?_⟩) <;>(try simp only [nm,List.length_map] at hsp) <;>try subst hsp)) | refine sS (e9 (by rfl) (by rfl) (by omega) hrow) ?_ | refine sS (e9 (by rfl) (by rfl) (by omega) hrow2) ?_ | fail)
  all_goals (conv=>whnf)
  all_goals first
   | (refine ih (m - 1) (i+1) _ (by omega) ⟨by (try dsimp only);omega,?_⟩ (by (conv=>whnf);first | done | rfl | (simp (disch:=omega) only [V5])))
   | (with_reducible first | refine w8 ?_ | refine K8 ?_ | refine K1 ?_)
   | (refine K7 ?_;simp only [nm])
   | refine le_of_eq ?_
  all_goals (first | (have hd2:l2.drop i=[]:=List.drop_eq_nil_of_le (by omega);grind) | grind)
 ·have hd:l1.drop i=[]:=List.drop_eq_nil_of_le hge
  have hI2:=hI.2
  rw [hd] at hI2
  repeat' ((conv=>whnf);first | (with_reducible refine sC (by kernel_rfl) ?_) | ((first | (with_reducible first | refine sB ?_ | refine x4 ?_ | refine x5 ?_) | refine sP (by rfl) ?_);first | refine oT ?_ | refine oF ?_ | (refine Or.inr (Or.inr ⟨fun hsp=>?_,fun hsp=>?_⟩) <;>(try simp only [nm,List.length_map] at hsp) <;>try subst hsp)) | fail)
  all_goals (conv=>whnf)
  all_goals first
   | (with_reducible first | refine w8 ?_ | refine K8 ?_ | refine K1 ?_)
   | (refine K7 ?_;simp only [nm])
   | refine le_of_eq ?_
  all_goals (first | (have hd2:l2.drop i=[]:=List.drop_eq_nil_of_le (by omega);grind) | grind)
end Go.Ab.Td
namespace Go.Ab.Td
set_option maxRecDepth 100000
set_option maxRecDepth 100000
open Go Go.Ab Go.ChangeShapes
def a8r:List Ty:=[.int .u8,.int .u8,.int .u8,.int .i32,.str]
def b8p:List Ty:=[.sl a8r,.sl a8r,.sl [.int .u8]]
theorem b8W {n:Int} (h:(Lit.int .u8 n).wf=true):0≤n∧n<256:=by
 simp only [Lit.wf,Bool.and_eq_true,IntKind.min,IntKind.max,IntKind.signed,IntKind.bits] at h
 simp at h
 omega
theorem c6H {p:PV} (h:a9I (false,[.int .u8]) p):∃ n,p= .int .u8 n∧0≤n∧n<256:=by
 obtain ⟨qs,e,hl,h⟩:=h
 simp only [a8H] at e
 subst e
 have k:=h 0 _ _ rfl rfl
 cases k with
 | int w=>exact ⟨_,rfl,b8W w⟩
theorem c5p {n:Int} (h:(Lit.int .i32 n).wf=true): -2147483648≤n∧n≤2147483647:=by
 simp only [Lit.wf,Bool.and_eq_true,IntKind.min,IntKind.max,IntKind.signed,IntKind.bits] at h
 simp at h
 omega
def b9c (qs:List PV) (ts:List Ty):Prop:=qs.length=ts.length∧∀ (j:Nat) (q:PV) (t:Ty),qs[j]?=some q→ts[j]?=some t→Has t q
theorem b9c.split {qs:List PV} {ts r:List Ty} (h:b9c qs (ts++r)):∃ a b,qs=a++b∧b9c a ts∧b9c b r:=by
 obtain ⟨hl,h⟩:=h
 simp only [List.length_append] at hl
 refine ⟨qs.take ts.length,qs.drop ts.length,(List.take_append_drop _ _).symm,⟨by simp;omega,fun j q t hq ht=>?_⟩,⟨by simp;omega,fun j q t hq ht=>?_⟩⟩
 ·have hj:j<ts.length:=(List.getElem?_eq_some_iff.1 ht).1
  rw [List.getElem?_take_of_lt hj] at hq
  exact h j q t hq (by rw [List.getElem?_append_left hj];exact ht)
 ·rw [List.getElem?_drop] at hq
  exact h _ q t hq (by rw [List.getElem?_append_right (by omega),Nat.add_sub_cancel_left];exact ht)
structure Wd where
 K:Int
 A:Int
 B:Int
 N:Int
 S:List UInt8
 hA:0≤A∧A<256
 hB:0≤B∧B<256
 hN: -2147483648≤N∧N≤2147483647
def Wd.row (w:Wd):List PV:=[.int .u8 w.K,.int .u8 w.A,.int .u8 w.B,.int .i32 w.N,.str w.S]
theorem c4F {qs:List PV} (h:b9c qs a8r):∃ w:Wd,qs=w.row:=by
 obtain ⟨hl,h⟩:=h
 match qs,hl with
 | [a,b,c,d,e],_=>
   have k0:=h 0 _ _ rfl rfl
   have k1:=h 1 _ _ rfl rfl
   have k2:=h 2 _ _ rfl rfl
   have k3:=h 3 _ _ rfl rfl
   have k4:=h 4 _ _ rfl rfl
   cases k0 with
   | int w0=>
   cases k1 with
   | int w1=>
   cases k2 with
   | int w2=>
   cases k3 with
   | int w3=>
   cases k4 with
   | str w4=>exact ⟨⟨_,_,_,_,_,b8W w1,b8W w2,c5p w3⟩,rfl⟩
end Go.Ab.Td
namespace Go.Ab.Td
set_option maxRecDepth 100000
open Go Go.Ab
variable {P:Program}
set_option linter.unusedSimpArgs false
attribute [local irreducible] g8
end Go.Ab.Td
namespace Go.Ab.Td
set_option maxRecDepth 100000
open Go Go.Ab
end Go.Ab.Td
namespace Go.Ab.Td
set_option maxRecDepth 100000
set_option maxRecDepth 100000
open Go Go.Ab
theorem b7M {o:Ob} (hr:o.right) (hk:o.kind=3∨o.kind=4):o=⟨o.kind,o.exec,o.n,[],0,0,0⟩∧ -2147483648≤o.n∧o.n≤2147483648:=by
 obtain ⟨a,b,c,d,e,f⟩:=b9T hr hk
 have e2:o.name=[]:=List.length_eq_zero_iff.1 (by omega)
 refine ⟨?_,a,b⟩
 cases o;simp_all
theorem tdm {n:Int} (h:n.tmod 65536=0):n.tdiv 65536*65536=n:=by
 have:=Int.mul_tdiv_add_tmod n 65536
 omega
end Go.Ab.Td
namespace Go.Ab.Td.TdW11
set_option maxRecDepth 100000
set_option maxRecDepth 100000
open Go Go.Ab Go.Ab.Td
variable {P:Program}
set_option linter.unusedSimpArgs false
def a2o:TF:=(.node (.node (.node (.node (.node (.node .nil (.node (.leaf a5y a7O) (.leaf u5 a0w))) (.leaf x9 a1E)) (.node (.node (.leaf V0 a2B) (.leaf W8 a4c)) (.node (.node (.leaf J3 a2y) (.leaf C1 K9)) (.leaf M4 a0A)))) (.node (.node .nil (.node (.leaf w6 U2) (.leaf F0 Y0))) (.node (.node (.node (.node (.leaf a2L a5d) (.leaf G3 a0x)) .nil) .nil) (.node (.node (.leaf S7 a5c) (.leaf O6 Z0)) (.leaf B7 R1))))) (.node (.node (.node (.node .nil (.node (.leaf U5 a5e) (.leaf D7 a0z))) (.node (.leaf U6 a1l) (.leaf M3 a0y))) (.node .nil (.node (.node (.leaf a2K a5b) (.leaf R4 a0v)) (.leaf y5 L0)))) (.node (.node (.node (.leaf W9 a4d) (.node (.leaf C4 a3F) (.leaf C9 F7))) (.leaf P8 a1G)) (.node (.leaf E9 X9) (.leaf D4 a2z))))) (.node (.node (.node (.node (.node .nil (.node (.leaf a0N a4Z) (.leaf K4 a1D))) (.node (.leaf u4 U1) (.leaf A0 H2))) (.node (.node (.node (.node (.leaf a2J a5a) (.leaf z9 G9)) .nil) .nil) (.node (.node (.leaf N6 a6e) (.leaf a1X a6d)) (.leaf x6 J0)))) (.node (.node .nil (.node (.leaf O7 a2C) (.leaf H3 Q3))) (.node (.leaf S8 a0u) (.node (.leaf J4 a3E) (.leaf w9 H0))))) (.node (.node (.node .nil (.node (.leaf J5 R9) (.leaf B0 J1))) (.node (.node (.node (.node (.leaf L2 V9) (.leaf E3 R0)) .nil) .nil) (.node (.node (.leaf Y4 a2h) (.leaf J6 S0)) (.leaf u6 E0)))) (.node (.node (.node (.leaf D2 O2) (.leaf U9 a1m)) (.leaf v8 O1)) (.node (.leaf S9 a3c) (.leaf F4 a5f))))))
def a1b:TF:=(.leaf a0O a3d)
def b8d:TF:=(.leaf S8 a0u)
def b5E:TF:=(.leaf C9 F7)
def ext (_:Nat):Option a2f:=none
theorem c4W (C:Laid P):a2o.all (f0 P)=true:=by simp only [a2o,TF.all,b3i C,b4V C,a7e C,b4X C,a5t C,b6h C,b4W C,b0U C,a7Y C,a3L C,a0K C,b4Z C,b7u C,b4U C,b4Y C,a6s C,a9V C,b3h C,a6t C,a2k C,b2j C,a1I C,a1w C,a9U C,a6u C,a1x C,a5v C,a4n C,a0b C,W1 C,b6g C,a9a C,a6v C,a7Z C,a3g C,a4m C,a3j C,a4I C,Q7 C,a3i C,S6 C,a2l C,a5T C,a3k C,S5 C,W2 C,L9 C,a0M C,Q6 C,a0c C,a5u C,Q5 C,a0L C,a3h C,Bool.and_self]
theorem c2M (C:Laid P):a1b.all (f0 P)=true:=by simp only [a1b,TF.all,b2k C,Bool.and_self]
theorem c4X (C:Laid P):b8d.all (f0 P)=true:=by simp only [b8d,TF.all,a6t C,Bool.and_self]
theorem a7X (C:Laid P):a0F P C9 F7=true:=by
 unfold a0F
 rw [a4I C]
 kernel_rfl
theorem c2N (C:Laid P):b5E.all (a0F P)=true:=by simp only [b5E,TF.all,a7X C,Bool.and_self]
theorem b8s:a3C P G fun g=>(ext g).map a5R:=by
 intro g h hg
 cases hg
theorem b1E:∀ g ps own r,kn0 g ps=some (own,r)→l8 P G g ps own r:=fun _ _ _ _ h=>by cases h
theorem run:isR [] (.bool true) ((a5l G kn0 ext b8d.fn b5E.fn a2o.fn a1b.fn 10000 20).call W9 [])=true:=by kernel_rfl
theorem ok (C:Laid P):l8 P G W9 [] [] (.bool true):=b0e C.mixed b1E b8s (TF.e8 (c4X C)) (TF.e8 (c2N C)) (TF.e8 (c4W C)) (TF.e8 (c2M C)) (b7t run)
end Go.Ab.Td.TdW11
namespace Go.Ab.Td
set_option maxRecDepth 100000
open Go Go.Ab
variable {P:Program}
set_option linter.unusedSimpArgs false
attribute [local irreducible] g8
end Go.Ab.Td
namespace Go.Ab.Td
set_option maxRecDepth 100000
open Go Go.Ab
variable {P:Program}
set_option linter.unusedSimpArgs false
attribute [local irreducible] g8
end Go.Ab.Td
namespace Go.Ab.Td
set_option maxRecDepth 100000
set_option maxRecDepth 100000
open Go Go.Ab
variable {P:Program}
set_option linter.unusedSimpArgs false
attribute [local irreducible] g8
theorem Cl.ext' (a b:Cl):(a=b)=(a.kind=b.kind∧a.bytes=b.bytes∧a.items=b.items∧a.keys=b.keys∧a.p8=b.p8∧a.max=b.max∧a.at'=b.at'):=by
 cases a;cases b;simp
theorem a9C {n:Nat} (h:n≤1000000):n<2 ^ 62:=by omega
def b7e (c:Cl):Prop:=c.keys.length<2 ^ 62∧c.p8.length<2 ^ 62∧c.items.length<2 ^ 62
def big (h:List Cl):Prop:=h.length<2 ^ 62∧∀ c ∈ h,b7e c
theorem b2V {c:Cl} (h:c.small):b7e c:=⟨a9C h.1,a9C h.2.1,a9C h.2.2.1⟩
theorem b0n {h:List Cl} (hs:small h):big h:=⟨a9C hs.1,fun c hc=>b2V (hs.2 c hc)⟩
theorem c2S {h:List Cl} (hs:big h) {i:Nat} {c:Cl} (hc:b7e c):big (h.set i c):=by
 refine ⟨by rw [List.length_set];exact hs.1,fun d hd=>?_⟩
 rcases List.mem_or_eq_of_mem_set hd with hd | rfl
 ·exact hs.2 d hd
 ·exact hc
set_option maxHeartbeats 1000000 in
theorem a3T (C:Laid P) (a b:Cl) (ha:b7e a):l8 P G M5 [aC a,aC b] [] (.bool (tt (a=b))):=by
 refine j3 C (a4J C) rfl ?_
 obtain ⟨h1,h2,h3⟩:=ha
 have he:=Cl.ext' a b
 repeat' ((conv=>whnf);first | (with_reducible refine sC (by kernel_rfl) ?_) | ((first | (with_reducible first | refine sB ?_ | refine x4 ?_ | refine x5 ?_) | refine sP (by rfl) ?_);first | refine oT ?_ | refine oF ?_ | (refine Or.inr (Or.inr ⟨fun hsp=>?_,fun hsp=>?_⟩) <;>(try simp only [nm,List.length_map] at hsp) <;>try subst hsp)) | refine ⟨_,_,J9 C a.items b.items (by assumption),?_⟩ | refine ⟨_,_,J9 C a.keys b.keys (by assumption),?_⟩ | refine ⟨_,_,J9 C a.p8 b.p8 (by assumption),?_⟩ | fail)
 all_goals (conv=>whnf)
 all_goals (first | (with_reducible refine K8 ?_) | (with_reducible refine K1 ?_) | (refine K7 ?_;try simp (disch:=omega) only [nm,wrap_small])) <;>(grind)
set_option maxHeartbeats 1000000 in
theorem a7G (C:Laid P) (l1 l2:List Cl) (hs:big l1):l8 P G V1 [.sl 7 (List.map j6 l1),.sl 7 (List.map j6 l2)] [] (.bool (tt (l1=l2))):=by
 refine j3 C (a9d C) rfl ?_
 obtain ⟨hl,hs1⟩:=hs
 repeat' ((conv=>whnf);first | (with_reducible refine sC (by kernel_rfl) ?_) | ((first | (with_reducible first | refine sB ?_ | refine x4 ?_ | refine x5 ?_) | refine sP (by rfl) ?_);first | refine oT ?_ | refine oF ?_ | (refine Or.inr (Or.inr ⟨fun hsp=>?_,fun hsp=>?_⟩) <;>(try simp only [nm,List.length_map] at hsp) <;>try subst hsp)) | fail)
 all_goals (conv=>whnf)
 all_goals try (exact K1 (by intro e;subst e;simp_all))
 intro X hX hW
 refine a7C hX (fun st (a:Nat)=>st.upd [(5,.pv (pI (a:Int)))] []) (fun a m=>a+m=l1.length∧(l1.length=l2.length∧((l1=l2)=(l1.drop a=l2.drop a)))) 0 l1.length (by (conv=>whnf);first | done | rfl) (by simp;omega) ?_
 intro m i ih hI
 rcases a7o l1 i with ⟨x,hlt,hx⟩ | hge
 ·have hrow:=Y5 (f:=j6) hx
  have hd:=a3J hx
  have hI2:=hI.2
  rw [hd] at hI2
  obtain ⟨y,hy⟩:∃ y,l2[i]?=some y:=⟨_,List.getElem?_eq_getElem (by omega)⟩
  have hrow2:=Y5 (f:=j6) hy
  have hd2:=a3J hy
  rw [hd2,List.cons.injEq] at hI2
  have hxs:=hs1 x (List.mem_of_getElem? hx)
  repeat' ((conv=>whnf);first | (with_reducible refine sC (by kernel_rfl) ?_) | ((first | (with_reducible first | refine sB ?_ | refine x4 ?_ | refine x5 ?_) | refine sP (by rfl) ?_);first | refine oT ?_ | refine oF ?_ | (refine Or.inr (Or.inr ⟨fun hsp=>?_,fun hsp=>?_⟩) <;>(try simp only [nm,List.length_map] at hsp) <;>try subst hsp)) | refine ⟨_,_,a3T C x y hxs,?_⟩ | refine sS (e9 (by rfl) (by rfl) (by omega) hrow) ?_ | refine sS (e9 (by rfl) (by rfl) (by omega) hrow2) ?_ | fail)
  all_goals (conv=>whnf)
  all_goals first
   | (refine ih (m - 1) (i+1) _ (by omega) ⟨by (try dsimp only);omega,?_⟩ (by (conv=>whnf);first | done | rfl | (simp (disch:=omega) only [V5])))
   | (with_reducible first | refine w8 ?_ | refine K8 ?_ | refine K1 ?_)
   | (refine K7 ?_;simp only [nm])
   | refine le_of_eq ?_
  all_goals (first | (have hd2:l2.drop i=[]:=List.drop_eq_nil_of_le (by omega);grind) | grind)
 ·have hd:l1.drop i=[]:=List.drop_eq_nil_of_le hge
  have hI2:=hI.2
  rw [hd] at hI2
  repeat' ((conv=>whnf);first | (with_reducible refine sC (by kernel_rfl) ?_) | ((first | (with_reducible first | refine sB ?_ | refine x4 ?_ | refine x5 ?_) | refine sP (by rfl) ?_);first | refine oT ?_ | refine oF ?_ | (refine Or.inr (Or.inr ⟨fun hsp=>?_,fun hsp=>?_⟩) <;>(try simp only [nm,List.length_map] at hsp) <;>try subst hsp)) | refine ⟨_,_,a3T C x y hxs,?_⟩ | fail)
  all_goals (conv=>whnf)
  all_goals first
   | (with_reducible first | refine w8 ?_ | refine K8 ?_ | refine K1 ?_)
   | (refine K7 ?_;simp only [nm])
   | refine le_of_eq ?_
  all_goals (first | (have hd2:l2.drop i=[]:=List.drop_eq_nil_of_le (by omega);grind) | grind)
end Go.Ab.Td

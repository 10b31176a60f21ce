/- A part of the proof: the texts TdBase, TdA, TdB, TdC, TdD, TdE, TdF, TdG, TdH. Under: nothing. -/
import Derived.Test.YtngmifmcohmfmaaDoorG06
import Derived.Test.YtngmifmcohmfmaaDoorG05
import Derived.KernelRfl
set_option linter.unusedVariables false
namespace Go.Ab.Td
set_option maxRecDepth 100000
set_option maxRecDepth 100000
open Go Go.Ab
def b0q:List PV:=[.str [97],.str [98],.str [97,100,100],.str [120],.str [102,111,111],.str [],.str [112,111,112],.str [70,111,110,116]]
def G:Gl:=⟨fun i=>match i with | 0=>some b0q | _=>none,fun _=>none⟩
def noX:Nat→Option a1V:=fun _=>none
def noT:Nat→Option m0:=fun _=>none
theorem i7 {P:Program} (C:Laid P) {g:Nat} {c:m0} {ps:List PV} {r:PV} (hk:b9 P g c=true) (hl:ps.length=c.nparams) (h:fnV G (j6 P G) noX noT noT 0 c ps r):j6 P G g ps [] r:=
 b4h C.mixed hk (fun _ _ h=>by cases h) (fun _ _ h=>by cases h) (fun _ _ h=>by cases h) hl h
end Go.Ab.Td
namespace Go.Ab.Td
set_option maxRecDepth 100000
set_option maxRecDepth 100000
open Go Go.Ab
variable {P:Program}
set_option linter.unusedSimpArgs false
attribute [local irreducible] d8
set_option maxHeartbeats 1000000 in
theorem a8b (C:Laid P) (o:Ob):j6 P G I9 [aO o] [] (.bool (tt o.comp)):=by
 refine i7 C (a8V C) rfl ?_
 repeat' ((conv=>whnf);first | (with_reducible refine sC (by kernel_rfl) ?_) | ((with_reducible refine sB ?_);first | refine oT ?_ | refine oF ?_ | (refine Or.inr (Or.inr ⟨fun hsp=>?_,fun hsp=>?_⟩) <;>(try simp only [nm] at hsp) <;>try subst hsp)) | ((with_reducible refine x8 ?_);first | refine oT ?_ | refine oF ?_ | (refine Or.inr (Or.inr ⟨fun hsp=>?_,fun hsp=>?_⟩) <;>(try simp only [nm] at hsp) <;>try subst hsp)) | ((with_reducible refine x9 ?_);first | refine oT ?_ | refine oF ?_ | (refine Or.inr (Or.inr ⟨fun hsp=>?_,fun hsp=>?_⟩) <;>(try simp only [nm] at hsp) <;>try subst hsp)) | ((refine sP (by rfl) ?_);first | refine oT ?_ | refine oF ?_ | (refine Or.inr (Or.inr ⟨fun hsp=>?_,fun hsp=>?_⟩) <;>(try simp only [nm] at hsp) <;>try subst hsp)) | fail)
 all_goals (conv=>whnf)
 all_goals (first | (with_reducible refine E2 ?_) | (with_reducible refine C7 ?_) | (refine E7 ?_;try simp (disch:=omega) only [nm,wrap_small])) <;>(unfold Ob.comp;omega)
theorem a6w (C:Laid P) (o_k:Int) (o_e:Bool) (o_n:Int) (o_s:List UInt8) (o_r:Int) (o_f:Int) (o_l:Int):j6 P G I9 [.agg [.int .i64 o_k,.bool o_e,.int .i64 o_n,.str o_s,.int .i64 o_r,.int .i64 o_f,.int .i64 o_l]] [] (.bool (tt (⟨o_k,o_e,o_n,o_s,o_r,o_f,o_l⟩:Ob).comp)):=a8b C (⟨o_k,o_e,o_n,o_s,o_r,o_f,o_l⟩:Ob)
end Go.Ab.Td
namespace Go.Ab.Td
set_option maxRecDepth 100000
set_option maxRecDepth 100000
open Go Go.Ab
variable {P:Program}
set_option linter.unusedSimpArgs false
attribute [local irreducible] d8
set_option maxHeartbeats 1000000 in
theorem a6z (C:Laid P) (l:List Ob) (o:Ob) (hl:l.length<2 ^ 62):j6 P G a1y [.sl 7 (List.map g9 l),aO o] [] (pI (i9 o 0 l)):=by
 refine i7 C (b3n C) rfl ?_
 repeat' ((conv=>whnf);first | (with_reducible refine sC (by kernel_rfl) ?_) | ((with_reducible refine sB ?_);first | refine oT ?_ | refine oF ?_ | (refine Or.inr (Or.inr ⟨fun hsp=>?_,fun hsp=>?_⟩) <;>(try simp only [nm] at hsp) <;>try subst hsp)) | ((with_reducible refine x8 ?_);first | refine oT ?_ | refine oF ?_ | (refine Or.inr (Or.inr ⟨fun hsp=>?_,fun hsp=>?_⟩) <;>(try simp only [nm] at hsp) <;>try subst hsp)) | ((with_reducible refine x9 ?_);first | refine oT ?_ | refine oF ?_ | (refine Or.inr (Or.inr ⟨fun hsp=>?_,fun hsp=>?_⟩) <;>(try simp only [nm] at hsp) <;>try subst hsp)) | ((refine sP (by rfl) ?_);first | refine oT ?_ | refine oF ?_ | (refine Or.inr (Or.inr ⟨fun hsp=>?_,fun hsp=>?_⟩) <;>(try simp only [nm] at hsp) <;>try subst hsp)) | fail)
 all_goals (conv=>whnf)
 intro X hX hW
 refine a3K hX (fun st (a:Nat)=>st.upd [(5,.pv (pI (a:Int)))] []) (fun a m=>a+m=l.length∧(i9 o 0 l=i9 o a (l.drop a))) 0 l.length (by (conv=>whnf);first | done | rfl) (by simp) ?_
 intro m i ih hI
 rcases a2T l i with ⟨x,hlt,hx⟩ | hge
 ·have hrow:=C0 (f:=g9) hx
  have hd:=a0w hx
  have hI2:=hI.2
  rw [hd] at hI2
  simp only [i9] at hI2
  repeat' ((conv=>whnf);first | (with_reducible refine sC (by kernel_rfl) ?_) | ((with_reducible refine sB ?_);first | refine oT ?_ | refine oF ?_ | (refine Or.inr (Or.inr ⟨fun hsp=>?_,fun hsp=>?_⟩) <;>(try simp only [nm,List.length_map] at hsp) <;>try subst hsp)) | ((with_reducible refine x8 ?_);first | refine oT ?_ | refine oF ?_ | (refine Or.inr (Or.inr ⟨fun hsp=>?_,fun hsp=>?_⟩) <;>(try simp only [nm,List.length_map] at hsp) <;>try subst hsp)) | ((with_reducible refine x9 ?_);first | refine oT ?_ | refine oF ?_ | (refine Or.inr (Or.inr ⟨fun hsp=>?_,fun hsp=>?_⟩) <;>(try simp only [nm,List.length_map] at hsp) <;>try subst hsp)) | ((refine sP (by rfl) ?_);first | refine oT ?_ | refine oF ?_ | (refine Or.inr (Or.inr ⟨fun hsp=>?_,fun hsp=>?_⟩) <;>(try simp only [nm,List.length_map] at hsp) <;>try subst hsp)) | refine sS (e8 (by rfl) (by rfl) (by omega) hrow) ?_ | fail)
  all_goals (conv=>whnf)
  all_goals first
   | (refine ih (m - 1) (i+1) _ (by omega) ⟨by (try dsimp only);omega,?_⟩ (by (conv=>whnf);first | done | rfl | (simp (disch:=omega) only [z6])))
   | (with_reducible first | refine l8 ?_ | refine E2 ?_ | refine C7 ?_)
   | (refine E7 ?_;simp only [nm])
   | refine le_of_eq ?_
  all_goals grind
 ·have hd:l.drop i=[]:=List.drop_eq_nil_of_le hge
  have hI2:=hI.2
  rw [hd] at hI2
  simp only [i9] at hI2
  repeat' ((conv=>whnf);first | (with_reducible refine sC (by kernel_rfl) ?_) | ((with_reducible refine sB ?_);first | refine oT ?_ | refine oF ?_ | (refine Or.inr (Or.inr ⟨fun hsp=>?_,fun hsp=>?_⟩) <;>(try simp only [nm,List.length_map] at hsp) <;>try subst hsp)) | ((with_reducible refine x8 ?_);first | refine oT ?_ | refine oF ?_ | (refine Or.inr (Or.inr ⟨fun hsp=>?_,fun hsp=>?_⟩) <;>(try simp only [nm,List.length_map] at hsp) <;>try subst hsp)) | ((with_reducible refine x9 ?_);first | refine oT ?_ | refine oF ?_ | (refine Or.inr (Or.inr ⟨fun hsp=>?_,fun hsp=>?_⟩) <;>(try simp only [nm,List.length_map] at hsp) <;>try subst hsp)) | ((refine sP (by rfl) ?_);first | refine oT ?_ | refine oF ?_ | (refine Or.inr (Or.inr ⟨fun hsp=>?_,fun hsp=>?_⟩) <;>(try simp only [nm,List.length_map] at hsp) <;>try subst hsp)) | fail)
  all_goals (conv=>whnf)
  all_goals first
   | (with_reducible first | refine l8 ?_ | refine E2 ?_ | refine C7 ?_)
   | (refine E7 ?_;simp only [nm])
   | refine le_of_eq ?_
  all_goals grind
set_option maxHeartbeats 1000000 in
theorem b5j (C:Laid P) (c:Cl):j6 P G M4 [aC c] [] (pI c.size):=by
 refine i7 C (a6l C) rfl ?_
 repeat' ((conv=>whnf);first | (with_reducible refine sC (by kernel_rfl) ?_) | ((with_reducible refine sB ?_);first | refine oT ?_ | refine oF ?_ | (refine Or.inr (Or.inr ⟨fun hsp=>?_,fun hsp=>?_⟩) <;>(try simp only [nm] at hsp) <;>try subst hsp)) | ((with_reducible refine x8 ?_);first | refine oT ?_ | refine oF ?_ | (refine Or.inr (Or.inr ⟨fun hsp=>?_,fun hsp=>?_⟩) <;>(try simp only [nm] at hsp) <;>try subst hsp)) | ((with_reducible refine x9 ?_);first | refine oT ?_ | refine oF ?_ | (refine Or.inr (Or.inr ⟨fun hsp=>?_,fun hsp=>?_⟩) <;>(try simp only [nm] at hsp) <;>try subst hsp)) | ((refine sP (by rfl) ?_);first | refine oT ?_ | refine oF ?_ | (refine Or.inr (Or.inr ⟨fun hsp=>?_,fun hsp=>?_⟩) <;>(try simp only [nm] at hsp) <;>try subst hsp)) | fail)
 all_goals (conv=>whnf)
 all_goals (refine l8 ?_;simp only [Cl.size,List.length_map];grind [wrap_small])
theorem a6v (C:Laid P) (c_k:Int) (c_b:List UInt8) (c_i:List Ob) (c_ks:List Ob) (c_vs:List Ob) (c_m:Int) (c_a:Int):j6 P G M4 [.agg [.int .i64 c_k,.str c_b,.sl 7 (List.map g9 c_i),.sl 7 (List.map g9 c_ks),.sl 7 (List.map g9 c_vs),.int .i64 c_m,.int .i64 c_a]] [] (pI (⟨c_k,c_b,c_i,c_ks,c_vs,c_m,c_a⟩:Cl).size):=b5j C (⟨c_k,c_b,c_i,c_ks,c_vs,c_m,c_a⟩:Cl)
set_option maxHeartbeats 1000000 in
theorem b3B (C:Laid P) (c:Cl):j6 P G a0H [aC c] [] (pI c.size):=by
 refine i7 C (b5b C) rfl ?_
 repeat' ((conv=>whnf);first | (with_reducible refine sC (by kernel_rfl) ?_) | ((with_reducible refine sB ?_);first | refine oT ?_ | refine oF ?_ | (refine Or.inr (Or.inr ⟨fun hsp=>?_,fun hsp=>?_⟩) <;>(try simp only [nm] at hsp) <;>try subst hsp)) | ((with_reducible refine x8 ?_);first | refine oT ?_ | refine oF ?_ | (refine Or.inr (Or.inr ⟨fun hsp=>?_,fun hsp=>?_⟩) <;>(try simp only [nm] at hsp) <;>try subst hsp)) | ((with_reducible refine x9 ?_);first | refine oT ?_ | refine oF ?_ | (refine Or.inr (Or.inr ⟨fun hsp=>?_,fun hsp=>?_⟩) <;>(try simp only [nm] at hsp) <;>try subst hsp)) | ((refine sP (by rfl) ?_);first | refine oT ?_ | refine oF ?_ | (refine Or.inr (Or.inr ⟨fun hsp=>?_,fun hsp=>?_⟩) <;>(try simp only [nm] at hsp) <;>try subst hsp)) | fail)
 all_goals (conv=>whnf)
 all_goals (refine l8 ?_;simp only [Cl.size,List.length_map];grind [wrap_small])
theorem a5M (C:Laid P) (c_k:Int) (c_b:List UInt8) (c_i:List Ob) (c_ks:List Ob) (c_vs:List Ob) (c_m:Int) (c_a:Int):j6 P G a0H [.agg [.int .i64 c_k,.str c_b,.sl 7 (List.map g9 c_i),.sl 7 (List.map g9 c_ks),.sl 7 (List.map g9 c_vs),.int .i64 c_m,.int .i64 c_a]] [] (pI (⟨c_k,c_b,c_i,c_ks,c_vs,c_m,c_a⟩:Cl).size):=b3B C (⟨c_k,c_b,c_i,c_ks,c_vs,c_m,c_a⟩:Cl)
end Go.Ab.Td
namespace Go.Ab.Td
set_option maxRecDepth 100000
open Go Go.Ab
variable {P:Program}
set_option linter.unusedSimpArgs false
attribute [local irreducible] d8
end Go.Ab.Td
namespace Go.Ab.Td
set_option maxRecDepth 100000
open Go Go.Ab
variable {P:Program}
set_option linter.unusedSimpArgs false
attribute [local irreducible] d8
end Go.Ab.Td
namespace Go.Ab.Td
set_option maxRecDepth 100000
open Go Go.Ab
variable {P:Program}
set_option linter.unusedSimpArgs false
attribute [local irreducible] d8
end Go.Ab.Td
namespace Go.Ab.Td
set_option maxRecDepth 100000
open Go Go.Ab
variable {P:Program}
set_option linter.unusedSimpArgs false
attribute [local irreducible] d8
end Go.Ab.Td
namespace Go.Ab.Td
set_option maxRecDepth 100000
open Go Go.Ab
variable {P:Program}
set_option linter.unusedSimpArgs false
attribute [local irreducible] d8
end Go.Ab.Td
namespace Go.Ab.Td
set_option maxRecDepth 100000
set_option maxRecDepth 100000
open Go Go.Ab
variable {P:Program}
set_option linter.unusedSimpArgs false
attribute [local irreducible] d8
set_option maxHeartbeats 1000000 in
theorem a0I (C:Laid P) (s:B4) (n:Int) (h0:0≤n) (h1:n≤s.ops.length) (hl:s.ops.length≤1000000):j6 P G M6 [aS s,pI n] [] (.v9 [.sl 7 (List.map g9 (s.ops.drop (s.ops.length - n.toNat))),pI 0]):=by
 refine i7 C (a3J C) rfl ?_
 have hw:IntKind.i64.wrap ((s.ops.length:Int) - n)=(s.ops.length:Int) - n:=wrap_small (by omega) (by omega)
 repeat' ((conv=>whnf);first | (with_reducible refine sC (by kernel_rfl) ?_) | ((with_reducible refine sB ?_);first | refine oT ?_ | refine oF ?_ | (refine Or.inr (Or.inr ⟨fun hsp=>?_,fun hsp=>?_⟩) <;>(try simp only [nm,List.length_map] at hsp) <;>try subst hsp)) | ((with_reducible refine x8 ?_);first | refine oT ?_ | refine oF ?_ | (refine Or.inr (Or.inr ⟨fun hsp=>?_,fun hsp=>?_⟩) <;>(try simp only [nm,List.length_map] at hsp) <;>try subst hsp)) | ((with_reducible refine x9 ?_);first | refine oT ?_ | refine oF ?_ | (refine Or.inr (Or.inr ⟨fun hsp=>?_,fun hsp=>?_⟩) <;>(try simp only [nm,List.length_map] at hsp) <;>try subst hsp)) | ((refine sP (by rfl) ?_);first | refine oT ?_ | refine oF ?_ | (refine Or.inr (Or.inr ⟨fun hsp=>?_,fun hsp=>?_⟩) <;>(try simp only [nm,List.length_map] at hsp) <;>try subst hsp)) | refine sS (a6G (by rfl) (by rfl) (by rfl) (by rfl) (by simp only [List.length_map,hw];omega) (by simp only [List.length_map,hw];omega) (by rfl) (by simp only [List.length_map];omega)) ?_ | fail)
 all_goals (conv=>whnf)
 all_goals (refine x6 (K3.cons (u3 ?_) (K3.refl _));simp only [List.length_map,hw,Int.toNat_natCast,List.take_length];congr 2;omega)
set_option maxHeartbeats 1000000 in
theorem a8d (C:Laid P) (s:B4) (n:Int) (h0:0≤n) (h1:s.ops.length<n):j6 P G M6 [aS s,pI n] [] (.v9 [.sl 7 (List.map g9 []),pI 20]):=by
 refine i7 C (a3J C) rfl ?_
 repeat' ((conv=>whnf);first | (with_reducible refine sC (by kernel_rfl) ?_) | ((with_reducible refine sB ?_);first | refine oT ?_ | refine oF ?_ | (refine Or.inr (Or.inr ⟨fun hsp=>?_,fun hsp=>?_⟩) <;>(try simp only [nm,List.length_map] at hsp) <;>try subst hsp)) | ((with_reducible refine x8 ?_);first | refine oT ?_ | refine oF ?_ | (refine Or.inr (Or.inr ⟨fun hsp=>?_,fun hsp=>?_⟩) <;>(try simp only [nm,List.length_map] at hsp) <;>try subst hsp)) | ((with_reducible refine x9 ?_);first | refine oT ?_ | refine oF ?_ | (refine Or.inr (Or.inr ⟨fun hsp=>?_,fun hsp=>?_⟩) <;>(try simp only [nm,List.length_map] at hsp) <;>try subst hsp)) | ((refine sP (by rfl) ?_);first | refine oT ?_ | refine oF ?_ | (refine Or.inr (Or.inr ⟨fun hsp=>?_,fun hsp=>?_⟩) <;>(try simp only [nm,List.length_map] at hsp) <;>try subst hsp)) | fail)
 all_goals (conv=>whnf)
 all_goals ((repeat' (first | (with_reducible exact PV.le.refl _) | exact PV.le.emp _ | exact K3.nil | (with_reducible refine x6 ?_) | (with_reducible refine s7 ?_) | (refine K3.cons ?_ ?_) | (with_reducible refine l8 ?_) | (with_reducible refine y5 ?_) | (with_reducible refine E2 ?_) | (with_reducible refine C7 ?_) | (with_reducible refine u3 ?_) | (refine E7 ?_))) <;>first | rfl | exact PV.le.refl _ | ((try simp only [Ob.eta,Cl.eta,List.length_map] at*);first | rfl | (refine le_of_eq ?_;congr 1;grind []) | grind []))
set_option maxHeartbeats 1000000 in
theorem a4l (C:Laid P) (s:B4) (n:Int) (h0:0≤n) (h1:n≤s.ops.length) (hl:s.ops.length≤1000000):j6 P G O3 [aS s,pI n] [] (.v9 [aS {s with ops:=s.ops.take (s.ops.length - n.toNat)},pI 0]):=by
 refine i7 C (a5u C) rfl ?_
 have hw:IntKind.i64.wrap ((s.ops.length:Int) - n)=(s.ops.length:Int) - n:=wrap_small (by omega) (by omega)
 have ht:((s.ops.length:Int) - n).toNat=s.ops.length - n.toNat:=by omega
 repeat' ((conv=>whnf);first | (with_reducible refine sC (by kernel_rfl) ?_) | ((with_reducible refine sB ?_);first | refine oT ?_ | refine oF ?_ | (refine Or.inr (Or.inr ⟨fun hsp=>?_,fun hsp=>?_⟩) <;>(try simp only [nm,List.length_map] at hsp) <;>try subst hsp)) | ((with_reducible refine x8 ?_);first | refine oT ?_ | refine oF ?_ | (refine Or.inr (Or.inr ⟨fun hsp=>?_,fun hsp=>?_⟩) <;>(try simp only [nm,List.length_map] at hsp) <;>try subst hsp)) | ((with_reducible refine x9 ?_);first | refine oT ?_ | refine oF ?_ | (refine Or.inr (Or.inr ⟨fun hsp=>?_,fun hsp=>?_⟩) <;>(try simp only [nm,List.length_map] at hsp) <;>try subst hsp)) | ((refine sP (by rfl) ?_);first | refine oT ?_ | refine oF ?_ | (refine Or.inr (Or.inr ⟨fun hsp=>?_,fun hsp=>?_⟩) <;>(try simp only [nm,List.length_map] at hsp) <;>try subst hsp)) | refine sS (a6G (by rfl) (by rfl) (by rfl) (by rfl) (by omega) (by simp only [List.length_map,hw];omega) (by rfl) (by simp only [List.length_map,hw];omega)) ?_ | fail)
 all_goals (conv=>whnf)
 all_goals (refine le_of_eq ?_;simp only [List.length_map,hw,ht];rfl)
set_option maxHeartbeats 1000000 in
theorem a7F (C:Laid P) (s:B4) (l:List Ob) (hl:s.ops.length+l.length≤100):j6 P G B9 [aS s,.sl 7 (List.map g9 l)] [] (.v9 [aS {s with ops:=s.ops++l},pI 0]):=by
 refine i7 C (a2C C) rfl ?_
 have hw:IntKind.i64.wrap ((s.ops.length:Int)+l.length)=(s.ops.length:Int)+l.length:=wrap_small (by omega) (by omega)
 repeat' ((conv=>whnf);first | (with_reducible refine sC (by kernel_rfl) ?_) | ((with_reducible refine sB ?_);first | refine Or.inl ⟨by first | assumption | (simp only [nm,List.length_map,hw];first | done | assumption | omega),?_⟩ | refine Or.inr (Or.inl ⟨by first | assumption | (simp only [nm,List.length_map,hw];first | done | assumption | omega),?_⟩) | (refine Or.inr (Or.inr ⟨fun hsp=>?_,fun hsp=>?_⟩) <;>(try simp only [nm,List.length_map,hw] at hsp) <;>try subst hsp)) | ((with_reducible refine x8 ?_);first | refine Or.inl ⟨by first | assumption | (simp only [nm,List.length_map,hw];first | done | assumption | omega),?_⟩ | refine Or.inr (Or.inl ⟨by first | assumption | (simp only [nm,List.length_map,hw];first | done | assumption | omega),?_⟩) | (refine Or.inr (Or.inr ⟨fun hsp=>?_,fun hsp=>?_⟩) <;>(try simp only [nm,List.length_map,hw] at hsp) <;>try subst hsp)) | ((with_reducible refine x9 ?_);first | refine Or.inl ⟨by first | assumption | (simp only [nm,List.length_map,hw];first | done | assumption | omega),?_⟩ | refine Or.inr (Or.inl ⟨by first | assumption | (simp only [nm,List.length_map,hw];first | done | assumption | omega),?_⟩) | (refine Or.inr (Or.inr ⟨fun hsp=>?_,fun hsp=>?_⟩) <;>(try simp only [nm,List.length_map,hw] at hsp) <;>try subst hsp)) | ((refine sP (by rfl) ?_);first | refine Or.inl ⟨by first | assumption | (simp only [nm,List.length_map,hw];first | done | assumption | omega),?_⟩ | refine Or.inr (Or.inl ⟨by first | assumption | (simp only [nm,List.length_map,hw];first | done | assumption | omega),?_⟩) | (refine Or.inr (Or.inr ⟨fun hsp=>?_,fun hsp=>?_⟩) <;>(try simp only [nm,List.length_map,hw] at hsp) <;>try subst hsp)) | refine sS (T8 (by rfl) (by first | exact e9 | exact d6 | exact d7 (by rfl) (by rfl)) (by rfl) (by (try simp only [ln]);omega)) ?_ | refine sS (T8 (f:=g9) (x':=[⟨_,_,_,_,_,_,_⟩]) (by rfl) (by first | exact e9 | exact d6 | exact d7 (by rfl) (by rfl)) (by rfl) (by (try simp only [ln]);omega)) ?_ | refine sS (T8 (f:=k9) (x':=[⟨_,_,_,_,_,_,_⟩]) (by rfl) (by first | exact e9 | exact d6 | exact d7 (by rfl) (by rfl)) (by rfl) (by (try simp only [ln]);omega)) ?_ | refine sS (m7 (by rfl) (by rfl) (by (try simp only [ln]);omega) (by first | exact e9 | exact d6 | exact d7 (by rfl) (by rfl)) (by rfl) (by (try simp only [ln]);omega)) ?_ | refine sS (m7 (f:=g9) (x':=[⟨_,_,_,_,_,_,_⟩]) (by rfl) (by rfl) (by (try simp only [ln]);omega) (by first | exact e9 | exact d6 | exact d7 (by rfl) (by rfl)) (by rfl) (by (try simp only [ln]);omega)) ?_ | refine sS (m7 (f:=k9) (x':=[⟨_,_,_,_,_,_,_⟩]) (by rfl) (by rfl) (by (try simp only [ln]);omega) (by first | exact e9 | exact d6 | exact d7 (by rfl) (by rfl)) (by rfl) (by (try simp only [ln]);omega)) ?_ | refine sS (o9 (by rfl) (by first | exact e9 | exact d6 | exact d7 (by rfl) (by rfl)) (by rfl) (by (try simp only [ln]);omega)) ?_ | refine sS (o9 (f:=g9) (x':=[⟨_,_,_,_,_,_,_⟩]) (by rfl) (by first | exact e9 | exact d6 | exact d7 (by rfl) (by rfl)) (by rfl) (by (try simp only [ln]);omega)) ?_ | refine sS (o9 (f:=k9) (x':=[⟨_,_,_,_,_,_,_⟩]) (by rfl) (by first | exact e9 | exact d6 | exact d7 (by rfl) (by rfl)) (by rfl) (by (try simp only [ln]);omega)) ?_ | refine sS (a6G (by rfl) (by rfl) (by rfl) (by rfl) (by (try simp only [ln]);omega) (by (try simp only [ln]);omega) (by first | rfl | ((try simp only [ln]);omega)) (by (try simp only [ln]);omega)) ?_ | refine sS (a3S (by rfl) (by rfl) (by rfl) (by (try simp only [ln]);omega) (by (try simp only [ln]);omega) (by (try simp only [ln]);omega)) ?_ | refine sS (b2O (by rfl) (by rfl) (by rfl) (by (try simp only [ln]);omega) (by (try simp only [ln]);omega) (by (try simp only [ln]);omega)) ?_ | refine sS (a4V (by rfl) (by rfl) (by rfl) (by (try simp only [ln]);omega) (by (try simp only [ln]);omega) (by (try simp only [ln]);omega)) ?_ | refine sS (e8 (by rfl) (by rfl) (by omega) (a3l (d:=cl0) (by omega) (by omega))) ?_ | refine sS (e8 (by rfl) (by rfl) (by omega) (a3l (d:=ob0) (by omega) (by omega))) ?_ | refine sS (a4m (by rfl) (by rfl) (by omega)) ?_ | refine sS (b0h (by rfl) (by rfl) (by omega)) ?_ | fail)
 all_goals (conv=>whnf)
 all_goals (refine le_of_eq ?_;simp only [List.length_map,Int.toNat_natCast,List.take_length];rfl)
theorem b1a (C:Laid P) (s_ops:List Ob) (s_dicts:List Ob) (s_heap:List Cl) (s_f3:List (List PV)) (s_f4:Int) (s_f5:Int) (s_f6:Int) (s_f7:Int) (s_f8:Int) (s_f9:Int) (s_f10:Int) (s_f11:List (List PV)) (s_f12:Int) (s_f13:Int) (s_f14:Int) (s_f15:Int) (s_f16:Int) (s_f17:Int) (s_f18:Int) (s_f19:Int) (s_f20:Int) (s_f21:Int) (s_f22:Int) (s_f23:Int) (s_f24:Int) (s_f25:Int) (s_f26:Int) (s_f27:Int) (s_f28:Int) (s_f29:Int) (s_f30:Int) (s_f31:Int) (s_f32:Bool) (s_f33:Bool) (s_f34:List (List PV)) (s_f35:Int) (s_f36:Int) (s_f37:Int) (s_f38:Int) (s_f39:Int) (s_f40:Int) (s_f41:Int) (s_f42:Int) (s_f43:List (List PV)) (s_f44:Int) (s_f45:Int) (s_f46:List (List PV)) (s_f47:Int) (s_f48:Bool) (s_f49:Int) (s_f50:List UInt8) (s_f51:Int) (s_f52:Int) (s_f53:Int) (s_f54:Int) (s_f55:Int) (s_f56:Int) (s_f57:Int) (s_f58:Int) (s_f59:Int) (s_f60:Int) (s_f61:Int) (s_f62:List (List PV)) (s_f63:List (List PV)) (s_f64:List (List PV)) (s_f65:List UInt8) (s_f66:Int) (l:List Ob) (hl:s_ops.length+l.length≤100):j6 P G B9 [.agg [.sl 7 (List.map g9 s_ops),.sl 7 (List.map g9 s_dicts),.sl 7 (List.map k9 s_heap),.sl 3 s_f3,.int .i64 s_f4,.int .i64 s_f5,.int .i64 s_f6,.int .i64 s_f7,.int .i64 s_f8,.int .i64 s_f9,.int .i64 s_f10,.sl 7 s_f11,.int .i64 s_f12,.int .i64 s_f13,.int .i64 s_f14,.int .i64 s_f15,.int .i64 s_f16,.int .i64 s_f17,.int .i64 s_f18,.int .i64 s_f19,.int .i64 s_f20,.int .i64 s_f21,.int .i64 s_f22,.int .i64 s_f23,.int .i64 s_f24,.int .i64 s_f25,.int .i64 s_f26,.int .i64 s_f27,.int .i64 s_f28,.int .i64 s_f29,.int .i64 s_f30,.int .i64 s_f31,.bool s_f32,.bool s_f33,.sl 47 s_f34,.int .i64 s_f35,.int .i64 s_f36,.int .i64 s_f37,.int .i64 s_f38,.int .i64 s_f39,.int .i64 s_f40,.int .i64 s_f41,.int .i64 s_f42,.sl 1 s_f43,.int .i64 s_f44,.int .i64 s_f45,.sl 2 s_f46,.int .i64 s_f47,.bool s_f48,.int .i64 s_f49,.str s_f50,.int .i64 s_f51,.int .i64 s_f52,.int .i64 s_f53,.int .i64 s_f54,.int .i64 s_f55,.int .i64 s_f56,.int .i64 s_f57,.int .i64 s_f58,.int .i64 s_f59,.int .i64 s_f60,.int .i64 s_f61,.sl 57 s_f62,.sl 47 s_f63,.sl 3 s_f64,.str s_f65,.int .i64 s_f66],.sl 7 (List.map g9 l)] [] (.v9 [.agg [.sl 7 (List.map g9 (s_ops++l)),.sl 7 (List.map g9 s_dicts),.sl 7 (List.map k9 s_heap),.sl 3 s_f3,.int .i64 s_f4,.int .i64 s_f5,.int .i64 s_f6,.int .i64 s_f7,.int .i64 s_f8,.int .i64 s_f9,.int .i64 s_f10,.sl 7 s_f11,.int .i64 s_f12,.int .i64 s_f13,.int .i64 s_f14,.int .i64 s_f15,.int .i64 s_f16,.int .i64 s_f17,.int .i64 s_f18,.int .i64 s_f19,.int .i64 s_f20,.int .i64 s_f21,.int .i64 s_f22,.int .i64 s_f23,.int .i64 s_f24,.int .i64 s_f25,.int .i64 s_f26,.int .i64 s_f27,.int .i64 s_f28,.int .i64 s_f29,.int .i64 s_f30,.int .i64 s_f31,.bool s_f32,.bool s_f33,.sl 47 s_f34,.int .i64 s_f35,.int .i64 s_f36,.int .i64 s_f37,.int .i64 s_f38,.int .i64 s_f39,.int .i64 s_f40,.int .i64 s_f41,.int .i64 s_f42,.sl 1 s_f43,.int .i64 s_f44,.int .i64 s_f45,.sl 2 s_f46,.int .i64 s_f47,.bool s_f48,.int .i64 s_f49,.str s_f50,.int .i64 s_f51,.int .i64 s_f52,.int .i64 s_f53,.int .i64 s_f54,.int .i64 s_f55,.int .i64 s_f56,.int .i64 s_f57,.int .i64 s_f58,.int .i64 s_f59,.int .i64 s_f60,.int .i64 s_f61,.sl 57 s_f62,.sl 47 s_f63,.sl 3 s_f64,.str s_f65,.int .i64 s_f66],pI 0]):=a7F C (⟨s_ops,s_dicts,s_heap,s_f3,s_f4,s_f5,s_f6,s_f7,s_f8,s_f9,s_f10,s_f11,s_f12,s_f13,s_f14,s_f15,s_f16,s_f17,s_f18,s_f19,s_f20,s_f21,s_f22,s_f23,s_f24,s_f25,s_f26,s_f27,s_f28,s_f29,s_f30,s_f31,s_f32,s_f33,s_f34,s_f35,s_f36,s_f37,s_f38,s_f39,s_f40,s_f41,s_f42,s_f43,s_f44,s_f45,s_f46,s_f47,s_f48,s_f49,s_f50,s_f51,s_f52,s_f53,s_f54,s_f55,s_f56,s_f57,s_f58,s_f59,s_f60,s_f61,s_f62,s_f63,s_f64,s_f65,s_f66⟩:B4) l hl
end Go.Ab.Td

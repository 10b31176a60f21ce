/- A part of the proof: the texts TdRD, TdRE, TdRF, TdRG. Under: nothing. -/
import Derived.Test.YtomfaadmmchdcaaDoorG16
import Derived.Test.YtomfaadmmchdcaaDoorG17
set_option linter.unusedVariables false
namespace Go.Ab.Td
set_option maxRecDepth 100000
set_option maxRecDepth 100000
open Go Go.Ab
variable {P:Program}
set_option linter.unusedSimpArgs false
attribute [local irreducible] g8
theorem tdiv_neg (n:Int): -((-n).tdiv 65536)=n.tdiv 65536:=by rw [Int.neg_tdiv,Int.neg_neg]
set_option maxHeartbeats 1000000 in
theorem b2C (C:Laid P) (o:Ob) (hr:o.right) (hk:o.kind=4):l8 P G X1 [aO o] [] (aO ⟨3,false,o.n.tdiv 65536,[],0,0,0⟩):=by
 refine j3 C (b3m C) rfl ?_
 have hb:=a8k hr hk
 have htd:=a5K hb.1 hb.2
 have hv:o.val=o.n:=by simp [Ob.val,hk]
 have h1:IntKind.i64.wrap (0 - o.n)= -o.n:=by rw [wrap_small (by omega) (by omega)];omega
 have h2:=tdiv_neg o.n
 have h3:IntKind.i64.wrap ((-o.n).tdiv 65536)=(-o.n).tdiv 65536:=wrap_small (by omega) (by omega)
 have h4:IntKind.i64.wrap (0 - (-o.n).tdiv 65536)=o.n.tdiv 65536:=by rw [wrap_small (by omega) (by omega)];omega
 have h5:IntKind.i64.wrap (o.n.tdiv 65536)=o.n.tdiv 65536:=wrap_small (by omega) (by omega)
 repeat' ((conv=>whnf);first | (with_reducible refine sC (by kernel_rfl) ?_) | ((with_reducible refine sB ?_);first | refine Or.inl ⟨by first | assumption | (simp only [nm,hv];first | done | assumption | omega),?_⟩ | refine Or.inr (Or.inl ⟨by first | assumption | (simp only [nm,hv];first | done | assumption | omega),?_⟩) | (refine Or.inr (Or.inr ⟨fun hsp=>?_,fun hsp=>?_⟩) <;>(try simp only [nm,hv] at hsp) <;>try subst hsp)) | ((with_reducible refine x4 ?_);first | refine Or.inl ⟨by first | assumption | (simp only [nm,hv];first | done | assumption | omega),?_⟩ | refine Or.inr (Or.inl ⟨by first | assumption | (simp only [nm,hv];first | done | assumption | omega),?_⟩) | (refine Or.inr (Or.inr ⟨fun hsp=>?_,fun hsp=>?_⟩) <;>(try simp only [nm,hv] at hsp) <;>try subst hsp)) | ((with_reducible refine x5 ?_);first | refine Or.inl ⟨by first | assumption | (simp only [nm,hv];first | done | assumption | omega),?_⟩ | refine Or.inr (Or.inl ⟨by first | assumption | (simp only [nm,hv];first | done | assumption | omega),?_⟩) | (refine Or.inr (Or.inr ⟨fun hsp=>?_,fun hsp=>?_⟩) <;>(try simp only [nm,hv] at hsp) <;>try subst hsp)) | ((refine sP (by rfl) ?_);first | refine Or.inl ⟨by first | assumption | (simp only [nm,hv];first | done | assumption | omega),?_⟩ | refine Or.inr (Or.inl ⟨by first | assumption | (simp only [nm,hv];first | done | assumption | omega),?_⟩) | (refine Or.inr (Or.inr ⟨fun hsp=>?_,fun hsp=>?_⟩) <;>(try simp only [nm,hv] at hsp) <;>try subst hsp)) | refine ⟨_,_,b2D C o,?_⟩ | refine ⟨_,_,b5r C _,?_⟩ | refine sS (B8 (by rfl) (by rfl) (by decide)) ?_ | fail)
 all_goals (conv=>whnf)
 all_goals (simp only [hv,h1,h3,h4,h5];exact PV.le.refl _)
set_option maxHeartbeats 1000000 in
theorem u3 (C:Laid P) (l:List (List UInt8)) (s:List UInt8) (hl:l.length<2 ^ 62):l8 P G a5z [.sl 1 (l.map fun x=>[PV.str x]),.str s] [] (.bool (tt (s ∈ l))):=by
 refine j3 C (b7w C) rfl ?_
 repeat' ((conv=>whnf);first | (with_reducible refine sC (by kernel_rfl) ?_) | ((with_reducible refine sB ?_);first | refine oT ?_ | refine oF ?_ | (refine Or.inr (Or.inr ⟨fun hsp=>?_,fun hsp=>?_⟩) <;>(try simp only [nm] at hsp) <;>try subst hsp)) | ((with_reducible refine x4 ?_);first | refine oT ?_ | refine oF ?_ | (refine Or.inr (Or.inr ⟨fun hsp=>?_,fun hsp=>?_⟩) <;>(try simp only [nm] at hsp) <;>try subst hsp)) | ((with_reducible refine x5 ?_);first | refine oT ?_ | refine oF ?_ | (refine Or.inr (Or.inr ⟨fun hsp=>?_,fun hsp=>?_⟩) <;>(try simp only [nm] at hsp) <;>try subst hsp)) | ((refine sP (by rfl) ?_);first | refine oT ?_ | refine oF ?_ | (refine Or.inr (Or.inr ⟨fun hsp=>?_,fun hsp=>?_⟩) <;>(try simp only [nm] at hsp) <;>try subst hsp)) | fail)
 all_goals (conv=>whnf)
 intro X hX hW
 refine a7C hX (fun st (a:Nat)=>st.upd [(5,.pv (pI (a:Int)))] []) (fun a m=>a+m=l.length∧((s ∈ l)=(s ∈ l.drop a))) 0 l.length (by (conv=>whnf);first | done | rfl) (by simp) ?_
 intro m i ih hI
 rcases a7o l i with ⟨x,hlt,hx⟩ | hge
 ·have hrow:=Y5 (f:=fun x:List UInt8=>[PV.str x]) hx
  have hd:=a3J hx
  have hI2:=hI.2
  rw [hd] at hI2
  simp only [List.mem_cons,List.not_mem_nil] at hI2
  repeat' ((conv=>whnf);first | (with_reducible refine sC (by kernel_rfl) ?_) | ((with_reducible refine sB ?_);first | refine oT ?_ | refine oF ?_ | (refine Or.inr (Or.inr ⟨fun hsp=>?_,fun hsp=>?_⟩) <;>(try simp only [nm,List.length_map] at hsp) <;>try subst hsp)) | ((with_reducible refine x4 ?_);first | refine oT ?_ | refine oF ?_ | (refine Or.inr (Or.inr ⟨fun hsp=>?_,fun hsp=>?_⟩) <;>(try simp only [nm,List.length_map] at hsp) <;>try subst hsp)) | ((with_reducible refine x5 ?_);first | refine oT ?_ | refine oF ?_ | (refine Or.inr (Or.inr ⟨fun hsp=>?_,fun hsp=>?_⟩) <;>(try simp only [nm,List.length_map] at hsp) <;>try subst hsp)) | ((refine sP (by rfl) ?_);first | refine oT ?_ | refine oF ?_ | (refine Or.inr (Or.inr ⟨fun hsp=>?_,fun hsp=>?_⟩) <;>(try simp only [nm,List.length_map] at hsp) <;>try subst hsp)) | refine sS (e9 (by rfl) (by rfl) (by omega) hrow) ?_ | fail)
  all_goals (conv=>whnf)
  all_goals first
   | (refine ih (m - 1) (i+1) _ (by omega) ⟨by (try dsimp only);omega,?_⟩ (by (conv=>whnf);first | done | rfl | (simp (disch:=omega) only [V5])))
   | (with_reducible first | refine w8 ?_ | refine K8 ?_ | refine K1 ?_)
   | (refine K7 ?_;simp only [nm])
   | refine le_of_eq ?_
  all_goals grind
 ·have hd:l.drop i=[]:=List.drop_eq_nil_of_le hge
  have hI2:=hI.2
  rw [hd] at hI2
  simp only [List.mem_cons,List.not_mem_nil] at hI2
  repeat' ((conv=>whnf);first | (with_reducible refine sC (by kernel_rfl) ?_) | ((with_reducible refine sB ?_);first | refine oT ?_ | refine oF ?_ | (refine Or.inr (Or.inr ⟨fun hsp=>?_,fun hsp=>?_⟩) <;>(try simp only [nm,List.length_map] at hsp) <;>try subst hsp)) | ((with_reducible refine x4 ?_);first | refine oT ?_ | refine oF ?_ | (refine Or.inr (Or.inr ⟨fun hsp=>?_,fun hsp=>?_⟩) <;>(try simp only [nm,List.length_map] at hsp) <;>try subst hsp)) | ((with_reducible refine x5 ?_);first | refine oT ?_ | refine oF ?_ | (refine Or.inr (Or.inr ⟨fun hsp=>?_,fun hsp=>?_⟩) <;>(try simp only [nm,List.length_map] at hsp) <;>try subst hsp)) | ((refine sP (by rfl) ?_);first | refine oT ?_ | refine oF ?_ | (refine Or.inr (Or.inr ⟨fun hsp=>?_,fun hsp=>?_⟩) <;>(try simp only [nm,List.length_map] at hsp) <;>try subst hsp)) | fail)
  all_goals (conv=>whnf)
  all_goals first
   | (with_reducible first | refine w8 ?_ | refine K8 ?_ | refine K1 ?_)
   | (refine K7 ?_;simp only [nm])
   | refine le_of_eq ?_
  all_goals grind
end Go.Ab.Td
namespace Go.Ab.Td
set_option maxRecDepth 100000
set_option maxRecDepth 100000
open Go Go.Ab
variable {P:Program}
set_option linter.unusedSimpArgs false
attribute [local irreducible] g8
set_option maxHeartbeats 1000000 in
theorem F8 (C:Laid P) (s:C3) (n:Int) (l:List Ob) (h0:0≤n) (h1:n≤s.ops.length) (h2:s.ops.length - n+l.length≤100) (h3:s.ops.length≤1000000) (h4:l.length≤1000000):l8 P G y0 [aS s,pI n,.sl 7 (List.map i4 l)] [] (.p7 [aS {s with ops:=s.ops.take (s.ops.length - n.toNat)++l},pI 0]):=by
 refine j3 C (b0V C) rfl ?_
 have hw:IntKind.i64.wrap ((s.ops.length:Int) - n)=(s.ops.length:Int) - n:=wrap_small (by omega) (by omega)
 have hw2:IntKind.i64.wrap ((s.ops.length:Int) - n+l.length)=(s.ops.length:Int) - n+l.length:=wrap_small (by omega) (by omega)
 have ht:((s.ops.length:Int) - n).toNat=s.ops.length - n.toNat:=by omega
 repeat' ((conv=>whnf);first | (with_reducible refine sC (by kernel_rfl) ?_) | ((with_reducible refine sB ?_);first | refine Or.inl ⟨by first | assumption | (simp only [nm,List.length_map,hw,hw2];first | done | assumption | omega),?_⟩ | refine Or.inr (Or.inl ⟨by first | assumption | (simp only [nm,List.length_map,hw,hw2];first | done | assumption | omega),?_⟩) | (refine Or.inr (Or.inr ⟨fun hsp=>?_,fun hsp=>?_⟩) <;>(try simp only [nm,List.length_map,hw,hw2] at hsp) <;>try subst hsp)) | ((with_reducible refine x4 ?_);first | refine Or.inl ⟨by first | assumption | (simp only [nm,List.length_map,hw,hw2];first | done | assumption | omega),?_⟩ | refine Or.inr (Or.inl ⟨by first | assumption | (simp only [nm,List.length_map,hw,hw2];first | done | assumption | omega),?_⟩) | (refine Or.inr (Or.inr ⟨fun hsp=>?_,fun hsp=>?_⟩) <;>(try simp only [nm,List.length_map,hw,hw2] at hsp) <;>try subst hsp)) | ((with_reducible refine x5 ?_);first | refine Or.inl ⟨by first | assumption | (simp only [nm,List.length_map,hw,hw2];first | done | assumption | omega),?_⟩ | refine Or.inr (Or.inl ⟨by first | assumption | (simp only [nm,List.length_map,hw,hw2];first | done | assumption | omega),?_⟩) | (refine Or.inr (Or.inr ⟨fun hsp=>?_,fun hsp=>?_⟩) <;>(try simp only [nm,List.length_map,hw,hw2] at hsp) <;>try subst hsp)) | ((refine sP (by rfl) ?_);first | refine Or.inl ⟨by first | assumption | (simp only [nm,List.length_map,hw,hw2];first | done | assumption | omega),?_⟩ | refine Or.inr (Or.inl ⟨by first | assumption | (simp only [nm,List.length_map,hw,hw2];first | done | assumption | omega),?_⟩) | (refine Or.inr (Or.inr ⟨fun hsp=>?_,fun hsp=>?_⟩) <;>(try simp only [nm,List.length_map,hw,hw2] at hsp) <;>try subst hsp)) | refine sS (v3 (by rfl) (by rfl) (by rfl) (by omega) (by simp only [List.length_map,hw];omega) (by simp only [List.length_map,hw];omega)) ?_ | refine sS (d8 (f:=i4) (by rfl) (by first | exact b7 | exact b0 | exact b6 (by rfl) (by rfl)) (by rfl) (by simp only [List.length_map,hw,ht,List.length_drop,List.length_take];omega)) ?_ | refine sS (d7 (f:=i4) (x':=l) (by rfl) (by rfl) (by rfl) (by first | exact b7 | exact b0 | exact b6 (by rfl) (by rfl)) (by rfl) (by simp only [List.length_map,hw,ht,List.length_drop,List.length_take];omega)) ?_ | fail)
 all_goals (conv=>whnf)
 all_goals (refine G2 (N8.cons ?_ (N8.refl _));refine M0 (N8.cons (G1 ?_) (N8.refl _));simp only [List.length_map,hw,ht];simp;exact List.take_of_length_le (by simp))
set_option maxHeartbeats 1000000 in
theorem a3r (C:Laid P) (c:List UInt8) (o:Ob):l8 P G a1M [.str c,aO o] [] (.bool (tt (a0Z c o))):=by
 refine j3 C (b3r C) rfl ?_
 repeat' ((conv=>whnf);first | (with_reducible refine sC (by kernel_rfl) ?_) | ((with_reducible refine sB ?_);first | refine oT ?_ | refine oF ?_ | (refine Or.inr (Or.inr ⟨fun hsp=>?_,fun hsp=>?_⟩) <;>(try simp only [nm] at hsp) <;>try subst hsp)) | ((with_reducible refine x4 ?_);first | refine oT ?_ | refine oF ?_ | (refine Or.inr (Or.inr ⟨fun hsp=>?_,fun hsp=>?_⟩) <;>(try simp only [nm] at hsp) <;>try subst hsp)) | ((with_reducible refine x5 ?_);first | refine oT ?_ | refine oF ?_ | (refine Or.inr (Or.inr ⟨fun hsp=>?_,fun hsp=>?_⟩) <;>(try simp only [nm] at hsp) <;>try subst hsp)) | ((refine sP (by rfl) ?_);first | refine oT ?_ | refine oF ?_ | (refine Or.inr (Or.inr ⟨fun hsp=>?_,fun hsp=>?_⟩) <;>(try simp only [nm] at hsp) <;>try subst hsp)) | fail)
 all_goals (conv=>whnf)
 all_goals (first | (with_reducible refine K8 ?_) | (with_reducible refine K1 ?_) | (refine K7 ?_;try simp (disch:=omega) only [nm,wrap_small])) <;>(grind [a0Z,c1L,c1M,b2R,b0l])
end Go.Ab.Td
namespace Go.Ab.Td
set_option maxRecDepth 100000
set_option maxRecDepth 100000
open Go Go.Ab
variable {P:Program}
set_option linter.unusedSimpArgs false
attribute [local irreducible] g8
noncomputable def T7 (h:List Cl) (c:Ob):Prop:=(look (cellAt h a0o) c).isSome=true∧((look (cellAt h a0o) c).getD A2).kind=9
set_option maxHeartbeats 1000000 in
theorem A3 (C:Laid P) (s:C3) (c:Ob) (hs:small s.heap) (h4:4<s.heap.length):l8 P G a2N [aS s,aO c] [] (.p7 [aO ((look (cellAt s.heap a0o) c).getD A2),.bool (tt (T7 s.heap c))]):=by
 refine j3 C (b5e C) rfl ?_
 repeat' ((conv=>whnf);first | (with_reducible refine sC (by kernel_rfl) ?_) | ((with_reducible refine sB ?_);first | refine oT ?_ | refine oF ?_ | (refine Or.inr (Or.inr ⟨fun hsp=>?_,fun hsp=>?_⟩) <;>(try simp only [nm] at hsp) <;>try subst hsp)) | ((with_reducible refine x4 ?_);first | refine oT ?_ | refine oF ?_ | (refine Or.inr (Or.inr ⟨fun hsp=>?_,fun hsp=>?_⟩) <;>(try simp only [nm] at hsp) <;>try subst hsp)) | ((with_reducible refine x5 ?_);first | refine oT ?_ | refine oF ?_ | (refine Or.inr (Or.inr ⟨fun hsp=>?_,fun hsp=>?_⟩) <;>(try simp only [nm] at hsp) <;>try subst hsp)) | ((refine sP (by rfl) ?_);first | refine oT ?_ | refine oF ?_ | (refine Or.inr (Or.inr ⟨fun hsp=>?_,fun hsp=>?_⟩) <;>(try simp only [nm] at hsp) <;>try subst hsp)) | refine ⟨_,_,B4 C s.heap a0o c (by decide) (by show (4:Int)<_;omega) hs,?_⟩ | fail)
 all_goals (conv=>whnf)
 all_goals (refine G2 (N8.cons (PV.le.refl _) (N8.cons ?_ N8.nil));(first | (with_reducible refine K8 ?_) | (with_reducible refine K1 ?_) | (refine K7 ?_;try simp (disch:=omega) only [nm,wrap_small])) <;>(grind [T7]))
end Go.Ab.Td
namespace Go.Ab.Td
set_option maxRecDepth 100000
set_option maxRecDepth 100000
open Go Go.Ab
variable {P:Program}
set_option linter.unusedSimpArgs false
attribute [local irreducible] g8
theorem b7J {o:Ob} (h:o.right):({o with exec:=false}:Ob).right:=h
theorem c7z {n:Int} (h1: -2147483648≤n) (h2:n≤2147483648):(IntKind.i64.wrap (n.tdiv 65536*65536)=n)=(n.tmod 65536=0):=by
 have h:=Int.mul_tdiv_add_tmod n 65536
 have hb:=a5K h1 h2
 rw [wrap_small (by omega) (by omega)]
 apply propext
 omega
set_option maxHeartbeats 1000000 in
theorem b5s (C:Laid P) (o:Ob) (hr:o.right):l8 P G a3P [aO o] [] (aO o.key):=by
 refine j3 C (b6j C) rfl ?_
 have hr2:=b7J hr
 by_cases hk:o.kind=4
 ·have hb:=a8k hr hk
  have ht:=c7z hb.1 hb.2
  repeat' ((conv=>whnf);first | (with_reducible refine sC (by kernel_rfl) ?_) | ((with_reducible refine sB ?_);first | refine Or.inl ⟨by first | assumption | (simp only [nm,ht];first | done | assumption | omega),?_⟩ | refine Or.inr (Or.inl ⟨by first | assumption | (simp only [nm,ht];first | done | assumption | omega),?_⟩) | (refine Or.inr (Or.inr ⟨fun hsp=>?_,fun hsp=>?_⟩) <;>(try simp only [nm,ht] at hsp) <;>try subst hsp)) | ((with_reducible refine x4 ?_);first | refine Or.inl ⟨by first | assumption | (simp only [nm,ht];first | done | assumption | omega),?_⟩ | refine Or.inr (Or.inl ⟨by first | assumption | (simp only [nm,ht];first | done | assumption | omega),?_⟩) | (refine Or.inr (Or.inr ⟨fun hsp=>?_,fun hsp=>?_⟩) <;>(try simp only [nm,ht] at hsp) <;>try subst hsp)) | ((with_reducible refine x5 ?_);first | refine Or.inl ⟨by first | assumption | (simp only [nm,ht];first | done | assumption | omega),?_⟩ | refine Or.inr (Or.inl ⟨by first | assumption | (simp only [nm,ht];first | done | assumption | omega),?_⟩) | (refine Or.inr (Or.inr ⟨fun hsp=>?_,fun hsp=>?_⟩) <;>(try simp only [nm,ht] at hsp) <;>try subst hsp)) | ((refine sP (by rfl) ?_);first | refine Or.inl ⟨by first | assumption | (simp only [nm,ht];first | done | assumption | omega),?_⟩ | refine Or.inr (Or.inl ⟨by first | assumption | (simp only [nm,ht];first | done | assumption | omega),?_⟩) | (refine Or.inr (Or.inr ⟨fun hsp=>?_,fun hsp=>?_⟩) <;>(try simp only [nm,ht] at hsp) <;>try subst hsp)) | refine ⟨_,_,b2C C {o with exec:=false} hr2 hk,?_⟩ | fail)
  all_goals (conv=>whnf)
  all_goals (refine le_of_eq ?_;simp [Ob.key,i4, *])
 ·repeat' ((conv=>whnf);first | (with_reducible refine sC (by kernel_rfl) ?_) | ((with_reducible refine sB ?_);first | refine oT ?_ | refine oF ?_ | (refine Or.inr (Or.inr ⟨fun hsp=>?_,fun hsp=>?_⟩) <;>(try simp only [nm] at hsp) <;>try subst hsp)) | ((with_reducible refine x4 ?_);first | refine oT ?_ | refine oF ?_ | (refine Or.inr (Or.inr ⟨fun hsp=>?_,fun hsp=>?_⟩) <;>(try simp only [nm] at hsp) <;>try subst hsp)) | ((with_reducible refine x5 ?_);first | refine oT ?_ | refine oF ?_ | (refine Or.inr (Or.inr ⟨fun hsp=>?_,fun hsp=>?_⟩) <;>(try simp only [nm] at hsp) <;>try subst hsp)) | ((refine sP (by rfl) ?_);first | refine oT ?_ | refine oF ?_ | (refine Or.inr (Or.inr ⟨fun hsp=>?_,fun hsp=>?_⟩) <;>(try simp only [nm] at hsp) <;>try subst hsp)) | fail)
  all_goals (conv=>whnf)
  all_goals (refine le_of_eq ?_;simp [Ob.key,i4, *])
 skip
end Go.Ab.Td

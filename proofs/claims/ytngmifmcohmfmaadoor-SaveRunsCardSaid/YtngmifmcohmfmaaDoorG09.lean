/- A part of the proof: the texts TdH, TdSa, TdSb. Under: nothing. -/
import Derived.Test.YtngmifmcohmfmaaDoorG08
import Derived.Test.YtngmifmcohmfmaaDoorG05
namespace Go.Ab.Td
set_option maxRecDepth 100000
set_option maxRecDepth 100000
open Go Go.Ab
variable {P:Program}
set_option linter.unusedSimpArgs false
attribute [local irreducible] f0
set_option maxHeartbeats 1000000 in
theorem a1a (C:Laid P) (s:F2) (n:Int) (h0:0≤n) (h1:n≤s.ops.length) (hl:s.ops.length≤1000000):j7 P G O1 [aS s,pI n] [] (.x8 [.sl 7 (List.map i6 (s.ops.drop (s.ops.length - n.toNat))),pI 0]):=by
 refine i5 C (a4k C) rfl ?_
 have hw:IntKind.i64.wrap ((s.ops.length:Int) - n)=(s.ops.length:Int) - n:=wrap_small (by omega) (by omega)
 repeat' ((conv=>whnf);first | (with_reducible refine sC (by kernel_rfl) ?_) | ((with_reducible refine sB ?_);first | refine oT ?_ | refine oF ?_ | (refine Or.inr (Or.inr ⟨fun hsp=>?_,fun hsp=>?_⟩) <;>(try simp only [nm,List.length_map] at hsp) <;>try subst hsp)) | ((with_reducible refine o8 ?_);first | refine oT ?_ | refine oF ?_ | (refine Or.inr (Or.inr ⟨fun hsp=>?_,fun hsp=>?_⟩) <;>(try simp only [nm,List.length_map] at hsp) <;>try subst hsp)) | ((with_reducible refine o7 ?_);first | refine oT ?_ | refine oF ?_ | (refine Or.inr (Or.inr ⟨fun hsp=>?_,fun hsp=>?_⟩) <;>(try simp only [nm,List.length_map] at hsp) <;>try subst hsp)) | ((refine sP (by rfl) ?_);first | refine oT ?_ | refine oF ?_ | (refine Or.inr (Or.inr ⟨fun hsp=>?_,fun hsp=>?_⟩) <;>(try simp only [nm,List.length_map] at hsp) <;>try subst hsp)) | refine sS (a4N (by rfl) (by rfl) (by rfl) (by rfl) (by simp only [List.length_map,hw];omega) (by simp only [List.length_map,hw];omega) (by rfl) (by simp only [List.length_map];omega)) ?_ | fail)
 all_goals (conv=>whnf)
 all_goals (refine v3 (H8.cons (r9 ?_) (H8.refl _));simp only [List.length_map,hw,Int.toNat_natCast,List.take_length];congr 2;omega)
set_option maxHeartbeats 1000000 in
theorem a8K (C:Laid P) (s:F2) (n:Int) (h0:0≤n) (h1:s.ops.length<n):j7 P G O1 [aS s,pI n] [] (.x8 [.sl 7 (List.map i6 []),pI 20]):=by
 refine i5 C (a4k C) rfl ?_
 repeat' ((conv=>whnf);first | (with_reducible refine sC (by kernel_rfl) ?_) | ((with_reducible refine sB ?_);first | refine oT ?_ | refine oF ?_ | (refine Or.inr (Or.inr ⟨fun hsp=>?_,fun hsp=>?_⟩) <;>(try simp only [nm,List.length_map] at hsp) <;>try subst hsp)) | ((with_reducible refine o8 ?_);first | refine oT ?_ | refine oF ?_ | (refine Or.inr (Or.inr ⟨fun hsp=>?_,fun hsp=>?_⟩) <;>(try simp only [nm,List.length_map] at hsp) <;>try subst hsp)) | ((with_reducible refine o7 ?_);first | refine oT ?_ | refine oF ?_ | (refine Or.inr (Or.inr ⟨fun hsp=>?_,fun hsp=>?_⟩) <;>(try simp only [nm,List.length_map] at hsp) <;>try subst hsp)) | ((refine sP (by rfl) ?_);first | refine oT ?_ | refine oF ?_ | (refine Or.inr (Or.inr ⟨fun hsp=>?_,fun hsp=>?_⟩) <;>(try simp only [nm,List.length_map] at hsp) <;>try subst hsp)) | fail)
 all_goals (conv=>whnf)
 all_goals ((repeat' (first | (with_reducible exact PV.le.refl _) | exact PV.le.emp _ | exact H8.nil | (with_reducible refine v3 ?_) | (with_reducible refine o6 ?_) | (refine H8.cons ?_ ?_) | (with_reducible refine k7 ?_) | (with_reducible refine w8 ?_) | (with_reducible refine z6 ?_) | (with_reducible refine x6 ?_) | (with_reducible refine r9 ?_) | (refine z9 ?_))) <;>first | rfl | exact PV.le.refl _ | ((try simp only [Ob.eta,Cl.eta,List.length_map] at*);first | rfl | (refine le_of_eq ?_;congr 1;grind []) | grind []))
set_option maxHeartbeats 1000000 in
theorem a4y (C:Laid P) (s:F2) (n:Int) (h0:0≤n) (h1:n≤s.ops.length) (hl:s.ops.length≤1000000):j7 P G P0 [aS s,pI n] [] (.x8 [aS {s with ops:=s.ops.take (s.ops.length - n.toNat)},pI 0]):=by
 refine i5 C (a5Q C) rfl ?_
 have hw:IntKind.i64.wrap ((s.ops.length:Int) - n)=(s.ops.length:Int) - n:=wrap_small (by omega) (by omega)
 have ht:((s.ops.length:Int) - n).toNat=s.ops.length - n.toNat:=by omega
 repeat' ((conv=>whnf);first | (with_reducible refine sC (by kernel_rfl) ?_) | ((with_reducible refine sB ?_);first | refine oT ?_ | refine oF ?_ | (refine Or.inr (Or.inr ⟨fun hsp=>?_,fun hsp=>?_⟩) <;>(try simp only [nm,List.length_map] at hsp) <;>try subst hsp)) | ((with_reducible refine o8 ?_);first | refine oT ?_ | refine oF ?_ | (refine Or.inr (Or.inr ⟨fun hsp=>?_,fun hsp=>?_⟩) <;>(try simp only [nm,List.length_map] at hsp) <;>try subst hsp)) | ((with_reducible refine o7 ?_);first | refine oT ?_ | refine oF ?_ | (refine Or.inr (Or.inr ⟨fun hsp=>?_,fun hsp=>?_⟩) <;>(try simp only [nm,List.length_map] at hsp) <;>try subst hsp)) | ((refine sP (by rfl) ?_);first | refine oT ?_ | refine oF ?_ | (refine Or.inr (Or.inr ⟨fun hsp=>?_,fun hsp=>?_⟩) <;>(try simp only [nm,List.length_map] at hsp) <;>try subst hsp)) | refine sS (a4N (by rfl) (by rfl) (by rfl) (by rfl) (by omega) (by simp only [List.length_map,hw];omega) (by rfl) (by simp only [List.length_map,hw];omega)) ?_ | fail)
 all_goals (conv=>whnf)
 all_goals (refine le_of_eq ?_;simp only [List.length_map,hw,ht];rfl)
set_option maxHeartbeats 1000000 in
theorem a7U (C:Laid P) (s:F2) (l:List Ob) (hl:s.ops.length+l.length≤100):j7 P G D1 [aS s,.sl 7 (List.map i6 l)] [] (.x8 [aS {s with ops:=s.ops++l},pI 0]):=by
 refine i5 C (a2P C) rfl ?_
 have hw:IntKind.i64.wrap ((s.ops.length:Int)+l.length)=(s.ops.length:Int)+l.length:=wrap_small (by omega) (by omega)
 repeat' ((conv=>whnf);first | (with_reducible refine sC (by kernel_rfl) ?_) | ((with_reducible refine sB ?_);first | refine Or.inl ⟨by first | assumption | (simp only [nm,List.length_map,hw];first | done | assumption | omega),?_⟩ | refine Or.inr (Or.inl ⟨by first | assumption | (simp only [nm,List.length_map,hw];first | done | assumption | omega),?_⟩) | (refine Or.inr (Or.inr ⟨fun hsp=>?_,fun hsp=>?_⟩) <;>(try simp only [nm,List.length_map,hw] at hsp) <;>try subst hsp)) | ((with_reducible refine o8 ?_);first | refine Or.inl ⟨by first | assumption | (simp only [nm,List.length_map,hw];first | done | assumption | omega),?_⟩ | refine Or.inr (Or.inl ⟨by first | assumption | (simp only [nm,List.length_map,hw];first | done | assumption | omega),?_⟩) | (refine Or.inr (Or.inr ⟨fun hsp=>?_,fun hsp=>?_⟩) <;>(try simp only [nm,List.length_map,hw] at hsp) <;>try subst hsp)) | ((with_reducible refine o7 ?_);first | refine Or.inl ⟨by first | assumption | (simp only [nm,List.length_map,hw];first | done | assumption | omega),?_⟩ | refine Or.inr (Or.inl ⟨by first | assumption | (simp only [nm,List.length_map,hw];first | done | assumption | omega),?_⟩) | (refine Or.inr (Or.inr ⟨fun hsp=>?_,fun hsp=>?_⟩) <;>(try simp only [nm,List.length_map,hw] at hsp) <;>try subst hsp)) | ((refine sP (by rfl) ?_);first | refine Or.inl ⟨by first | assumption | (simp only [nm,List.length_map,hw];first | done | assumption | omega),?_⟩ | refine Or.inr (Or.inl ⟨by first | assumption | (simp only [nm,List.length_map,hw];first | done | assumption | omega),?_⟩) | (refine Or.inr (Or.inr ⟨fun hsp=>?_,fun hsp=>?_⟩) <;>(try simp only [nm,List.length_map,hw] at hsp) <;>try subst hsp)) | refine sS (J4 (by rfl) (by first | exact e8 | exact d8 | exact d9 (by rfl) (by rfl)) (by rfl) (by (try simp only [ln]);omega)) ?_ | refine sS (J4 (f:=i6) (x':=[⟨_,_,_,_,_,_,_⟩]) (by rfl) (by first | exact e8 | exact d8 | exact d9 (by rfl) (by rfl)) (by rfl) (by (try simp only [ln]);omega)) ?_ | refine sS (J4 (f:=j9) (x':=[⟨_,_,_,_,_,_,_⟩]) (by rfl) (by first | exact e8 | exact d8 | exact d9 (by rfl) (by rfl)) (by rfl) (by (try simp only [ln]);omega)) ?_ | refine sS (m6 (by rfl) (by rfl) (by (try simp only [ln]);omega) (by first | exact e8 | exact d8 | exact d9 (by rfl) (by rfl)) (by rfl) (by (try simp only [ln]);omega)) ?_ | refine sS (m6 (f:=i6) (x':=[⟨_,_,_,_,_,_,_⟩]) (by rfl) (by rfl) (by (try simp only [ln]);omega) (by first | exact e8 | exact d8 | exact d9 (by rfl) (by rfl)) (by rfl) (by (try simp only [ln]);omega)) ?_ | refine sS (m6 (f:=j9) (x':=[⟨_,_,_,_,_,_,_⟩]) (by rfl) (by rfl) (by (try simp only [ln]);omega) (by first | exact e8 | exact d8 | exact d9 (by rfl) (by rfl)) (by rfl) (by (try simp only [ln]);omega)) ?_ | refine sS (n9 (by rfl) (by first | exact e8 | exact d8 | exact d9 (by rfl) (by rfl)) (by rfl) (by (try simp only [ln]);omega)) ?_ | refine sS (n9 (f:=i6) (x':=[⟨_,_,_,_,_,_,_⟩]) (by rfl) (by first | exact e8 | exact d8 | exact d9 (by rfl) (by rfl)) (by rfl) (by (try simp only [ln]);omega)) ?_ | refine sS (n9 (f:=j9) (x':=[⟨_,_,_,_,_,_,_⟩]) (by rfl) (by first | exact e8 | exact d8 | exact d9 (by rfl) (by rfl)) (by rfl) (by (try simp only [ln]);omega)) ?_ | refine sS (a4N (by rfl) (by rfl) (by rfl) (by rfl) (by (try simp only [ln]);omega) (by (try simp only [ln]);omega) (by first | rfl | ((try simp only [ln]);omega)) (by (try simp only [ln]);omega)) ?_ | refine sS (Z0 (by rfl) (by rfl) (by rfl) (by (try simp only [ln]);omega) (by (try simp only [ln]);omega) (by (try simp only [ln]);omega)) ?_ | refine sS (a9g (by rfl) (by rfl) (by rfl) (by (try simp only [ln]);omega) (by (try simp only [ln]);omega) (by (try simp only [ln]);omega)) ?_ | refine sS (a3g (by rfl) (by rfl) (by rfl) (by (try simp only [ln]);omega) (by (try simp only [ln]);omega) (by (try simp only [ln]);omega)) ?_ | refine sS (e7 (by rfl) (by rfl) (by omega) (a0l (d:=cl0) (by omega) (by omega))) ?_ | refine sS (e7 (by rfl) (by rfl) (by omega) (a0l (d:=ob0) (by omega) (by omega))) ?_ | refine sS (a3k (by rfl) (by rfl) (by omega)) ?_ | refine sS (a8x (by rfl) (by rfl) (by omega)) ?_ | fail)
 all_goals (conv=>whnf)
 all_goals (refine le_of_eq ?_;simp only [List.length_map,Int.toNat_natCast,List.take_length];rfl)
theorem b1z (C:Laid P) (s_ops:List Ob) (s_dicts:List Ob) (s_heap:List Cl) (s_f3:List (List PV)) (s_f4:Int) (s_f5:Int) (s_f6:Int) (s_f7:Int) (s_f8:Int) (s_f9:Int) (s_f10:Int) (s_f11:List (List PV)) (s_f12:Int) (s_f13:Int) (s_f14:Int) (s_f15:Int) (s_f16:Int) (s_f17:Int) (s_f18:Int) (s_f19:Int) (s_f20:Int) (s_f21:Int) (s_f22:Int) (s_f23:Int) (s_f24:Int) (s_f25:Int) (s_f26:Int) (s_f27:Int) (s_f28:Int) (s_f29:Int) (s_f30:Int) (s_f31:Int) (s_f32:Bool) (s_f33:Bool) (s_f34:List (List PV)) (s_f35:Int) (s_f36:Int) (s_f37:Int) (s_f38:Int) (s_f39:Int) (s_f40:Int) (s_f41:Int) (s_f42:Int) (s_f43:List (List PV)) (s_f44:Int) (s_f45:Int) (s_f46:List (List PV)) (s_f47:Int) (s_f48:Bool) (s_f49:Int) (s_f50:List UInt8) (s_f51:Int) (s_f52:Int) (s_f53:Int) (s_f54:Int) (s_f55:Int) (s_f56:Int) (s_f57:Int) (s_f58:Int) (s_f59:Int) (s_f60:Int) (s_f61:Int) (s_f62:List (List PV)) (s_f63:List (List PV)) (s_f64:List (List PV)) (s_f65:List UInt8) (s_f66:Int) (l:List Ob) (hl:s_ops.length+l.length≤100):j7 P G D1 [.agg [.sl 7 (List.map i6 s_ops),.sl 7 (List.map i6 s_dicts),.sl 7 (List.map j9 s_heap),.sl 3 s_f3,.int .i64 s_f4,.int .i64 s_f5,.int .i64 s_f6,.int .i64 s_f7,.int .i64 s_f8,.int .i64 s_f9,.int .i64 s_f10,.sl 7 s_f11,.int .i64 s_f12,.int .i64 s_f13,.int .i64 s_f14,.int .i64 s_f15,.int .i64 s_f16,.int .i64 s_f17,.int .i64 s_f18,.int .i64 s_f19,.int .i64 s_f20,.int .i64 s_f21,.int .i64 s_f22,.int .i64 s_f23,.int .i64 s_f24,.int .i64 s_f25,.int .i64 s_f26,.int .i64 s_f27,.int .i64 s_f28,.int .i64 s_f29,.int .i64 s_f30,.int .i64 s_f31,.bool s_f32,.bool s_f33,.sl 47 s_f34,.int .i64 s_f35,.int .i64 s_f36,.int .i64 s_f37,.int .i64 s_f38,.int .i64 s_f39,.int .i64 s_f40,.int .i64 s_f41,.int .i64 s_f42,.sl 1 s_f43,.int .i64 s_f44,.int .i64 s_f45,.sl 2 s_f46,.int .i64 s_f47,.bool s_f48,.int .i64 s_f49,.str s_f50,.int .i64 s_f51,.int .i64 s_f52,.int .i64 s_f53,.int .i64 s_f54,.int .i64 s_f55,.int .i64 s_f56,.int .i64 s_f57,.int .i64 s_f58,.int .i64 s_f59,.int .i64 s_f60,.int .i64 s_f61,.sl 57 s_f62,.sl 47 s_f63,.sl 3 s_f64,.str s_f65,.int .i64 s_f66],.sl 7 (List.map i6 l)] [] (.x8 [.agg [.sl 7 (List.map i6 (s_ops++l)),.sl 7 (List.map i6 s_dicts),.sl 7 (List.map j9 s_heap),.sl 3 s_f3,.int .i64 s_f4,.int .i64 s_f5,.int .i64 s_f6,.int .i64 s_f7,.int .i64 s_f8,.int .i64 s_f9,.int .i64 s_f10,.sl 7 s_f11,.int .i64 s_f12,.int .i64 s_f13,.int .i64 s_f14,.int .i64 s_f15,.int .i64 s_f16,.int .i64 s_f17,.int .i64 s_f18,.int .i64 s_f19,.int .i64 s_f20,.int .i64 s_f21,.int .i64 s_f22,.int .i64 s_f23,.int .i64 s_f24,.int .i64 s_f25,.int .i64 s_f26,.int .i64 s_f27,.int .i64 s_f28,.int .i64 s_f29,.int .i64 s_f30,.int .i64 s_f31,.bool s_f32,.bool s_f33,.sl 47 s_f34,.int .i64 s_f35,.int .i64 s_f36,.int .i64 s_f37,.int .i64 s_f38,.int .i64 s_f39,.int .i64 s_f40,.int .i64 s_f41,.int .i64 s_f42,.sl 1 s_f43,.int .i64 s_f44,.int .i64 s_f45,.sl 2 s_f46,.int .i64 s_f47,.bool s_f48,.int .i64 s_f49,.str s_f50,.int .i64 s_f51,.int .i64 s_f52,.int .i64 s_f53,.int .i64 s_f54,.int .i64 s_f55,.int .i64 s_f56,.int .i64 s_f57,.int .i64 s_f58,.int .i64 s_f59,.int .i64 s_f60,.int .i64 s_f61,.sl 57 s_f62,.sl 47 s_f63,.sl 3 s_f64,.str s_f65,.int .i64 s_f66],pI 0]):=a7U C (⟨s_ops,s_dicts,s_heap,s_f3,s_f4,s_f5,s_f6,s_f7,s_f8,s_f9,s_f10,s_f11,s_f12,s_f13,s_f14,s_f15,s_f16,s_f17,s_f18,s_f19,s_f20,s_f21,s_f22,s_f23,s_f24,s_f25,s_f26,s_f27,s_f28,s_f29,s_f30,s_f31,s_f32,s_f33,s_f34,s_f35,s_f36,s_f37,s_f38,s_f39,s_f40,s_f41,s_f42,s_f43,s_f44,s_f45,s_f46,s_f47,s_f48,s_f49,s_f50,s_f51,s_f52,s_f53,s_f54,s_f55,s_f56,s_f57,s_f58,s_f59,s_f60,s_f61,s_f62,s_f63,s_f64,s_f65,s_f66⟩:F2) l hl
end Go.Ab.Td
namespace Go.Ab.Td
set_option maxRecDepth 100000
set_option maxRecDepth 100000
open Go Go.Ab
variable {P:Program}
set_option linter.unusedSimpArgs false
attribute [local irreducible] f0
structure Sn where
 n:Int
 heap:List Cl
 st:Int
def z7 (x:Sn):List PV:=[.int .i64 x.n,.sl 7 (x.heap.map j9),.int .i64 x.st]
def o4 (cells:Int) (o:Ob):Prop:=o.comp∧cells≤o.ref
open Classical in
noncomputable def ixF (p:Ob→Prop):Nat→List Ob→Int
 | _,[]=> -1
 | i,x::l=>if p x then (i:Int) else ixF p (i+1) l
theorem c3N (p:Ob→Prop):∀ (l:List Ob) (i:Nat),(0≤ixF p i l)↔∃ o ∈ l,p o
 | [],i=>by simp [ixF]
 | x::l,i=>by
   unfold ixF
   by_cases h:p x
   ·rw [if_pos h];simp [h]
   ·rw [if_neg h,c3N p l (i+1)];simp [h]
def plF (n:Int):Nat→List Sn→Int
 | _,[]=> -1
 | i,x::l=>if x.n=n then (i:Int) else plF n (i+1) l
theorem c1p (C:Laid P):O4 P m0 u7=true:=by
 unfold O4
 rw [R7 C]
 kernel_rfl
def c7F (g:Nat):Option n4:=match Nat.beq g m0 with | true=>some u7 | false=>none
theorem c4q (C:Laid P) {g:Nat} {c:n4} {ps:List PV} {r:PV} (hk:b9 P g c=true) (hl:ps.length=c.nparams) (h:fnV G (j7 P G) noX noT c7F 1 c ps r):j7 P G g ps [] r:=
 b0w C.mixed hk (fun _ _ h=>by cases h) (fun _ _ h=>by cases h) (fun g c h=>by
  unfold c7F at h
  split at h
  ·rename_i hb
   have:=Nat.eq_of_beq_eq_true hb
   subst this
   cases h
   exact c1p C
  ·cases h) hl h
set_option maxHeartbeats 1000000 in
theorem b4s (C:Laid P) (o:Ob) (n:Int):j7 P G K3 [aO o,pI n] [] (.bool (tt (o4 n o))):=by
 refine i5 C (a9X C) rfl ?_
 repeat' ((conv=>whnf);first | (with_reducible refine sC (by kernel_rfl) ?_) | ((first | (with_reducible first | refine sB ?_ | refine o8 ?_ | refine o7 ?_) | refine sP (by rfl) ?_);first | refine oT ?_ | refine oF ?_ | (refine Or.inr (Or.inr ⟨fun hsp=>?_,fun hsp=>?_⟩) <;>(try simp only [nm] at hsp) <;>try subst hsp)) | fail)
 all_goals (conv=>whnf)
 all_goals (first | (with_reducible refine z6 ?_) | (with_reducible refine x6 ?_) | (refine z9 ?_;try simp (disch:=omega) only [nm,wrap_small])) <;>(grind [o4,Ob.comp])
theorem b1H (C:Laid P) (o_k:Int) (o_e:Bool) (o_n:Int) (o_s:List UInt8) (o_r:Int) (o_f:Int) (o_l:Int) (n:Int):j7 P G K3 [.agg [.int .i64 o_k,.bool o_e,.int .i64 o_n,.str o_s,.int .i64 o_r,.int .i64 o_f,.int .i64 o_l],pI n] [] (.bool (tt (o4 n (⟨o_k,o_e,o_n,o_s,o_r,o_f,o_l⟩:Ob)))):=b4s C (⟨o_k,o_e,o_n,o_s,o_r,o_f,o_l⟩:Ob) n
set_option maxHeartbeats 1000000 in
theorem a9y (C:Laid P) (o:Ob) (x:Sn):j7 P G m8 [aO o,.ref (z7 x)] [] (.bool (tt (o4 x.heap.length o))):=by
 refine i5 C (a0s C) rfl ?_
 repeat' ((conv=>whnf);first | (with_reducible refine sC (by kernel_rfl) ?_) | ((first | (with_reducible first | refine sB ?_ | refine o8 ?_ | refine o7 ?_) | refine sP (by rfl) ?_);first | refine oT ?_ | refine oF ?_ | (refine Or.inr (Or.inr ⟨fun hsp=>?_,fun hsp=>?_⟩) <;>(try simp only [nm,List.length_map] at hsp) <;>try subst hsp)) | refine ⟨_,_,b1H C o.kind o.exec o.n o.name o.ref o.off o.len _,?_⟩ | fail)
 all_goals (conv=>whnf)
 all_goals (first | exact PV.le.refl _ | (refine le_of_eq ?_;simp only [List.length_map]))
set_option maxHeartbeats 1000000 in
theorem a5w (C:Laid P) (l:List Ob) (sn:Sn) (hl:l.length<2 ^ 62):j7 P G A7 [.sl 7 (List.map i6 l),.func (.func m8) [] [.ref (z7 sn)]] [] (pI (ixF (o4 sn.heap.length) 0 l)):=by
 refine i5 C (a0H C) rfl ?_
 repeat' ((conv=>whnf);first | (with_reducible refine sC (by kernel_rfl) ?_) | ((first | (with_reducible first | refine sB ?_ | refine o8 ?_ | refine o7 ?_) | refine sP (by rfl) ?_);first | refine oT ?_ | refine oF ?_ | (refine Or.inr (Or.inr ⟨fun hsp=>?_,fun hsp=>?_⟩) <;>(try simp only [nm] at hsp) <;>try subst hsp)) | fail)
 all_goals (conv=>whnf)
 intro X hX hW
 refine a2x hX (fun st (a:Nat)=>st.upd [(8,.pv (pI (a:Int)))] []) (fun a m=>a+m=l.length∧(ixF (o4 sn.heap.length) 0 l=ixF (o4 sn.heap.length) a (l.drop a))) 0 l.length (by (conv=>whnf);first | done | rfl) (by simp) ?_
 intro m i ih hI
 rcases a0E l i with ⟨x,hlt,hx⟩ | hge
 ·have hrow:=y2 (f:=i6) hx
  have hd:=Z7 hx
  have hI2:=hI.2
  rw [hd] at hI2
  simp only [ixF] at hI2
  repeat' ((conv=>whnf);first | (with_reducible refine sC (by kernel_rfl) ?_) | ((first | (with_reducible first | refine sB ?_ | refine o8 ?_ | refine o7 ?_) | refine sP (by rfl) ?_);first | refine oT ?_ | refine oF ?_ | (refine Or.inr (Or.inr ⟨fun hsp=>?_,fun hsp=>?_⟩) <;>(try simp only [nm,List.length_map] at hsp) <;>try subst hsp)) | refine ⟨_,_,a9y C x sn,?_⟩ | refine sS (e7 (by rfl) (by rfl) (by omega) hrow) ?_ | fail)
  all_goals (conv=>whnf)
  all_goals first
   | (refine ih (m - 1) (i+1) _ (by omega) ⟨by (try dsimp only);omega,?_⟩ (by (conv=>whnf);first | done | rfl | (simp (disch:=omega) only [p9])))
   | (with_reducible first | refine k7 ?_ | refine z6 ?_ | refine x6 ?_)
   | (refine z9 ?_;simp only [nm])
   | refine le_of_eq ?_
  all_goals grind
 ·have hd:l.drop i=[]:=List.drop_eq_nil_of_le hge
  have hI2:=hI.2
  rw [hd] at hI2
  simp only [ixF] at hI2
  repeat' ((conv=>whnf);first | (with_reducible refine sC (by kernel_rfl) ?_) | ((first | (with_reducible first | refine sB ?_ | refine o8 ?_ | refine o7 ?_) | refine sP (by rfl) ?_);first | refine oT ?_ | refine oF ?_ | (refine Or.inr (Or.inr ⟨fun hsp=>?_,fun hsp=>?_⟩) <;>(try simp only [nm,List.length_map] at hsp) <;>try subst hsp)) | refine ⟨_,_,a9y C x sn,?_⟩ | fail)
  all_goals (conv=>whnf)
  all_goals first
   | (with_reducible first | refine k7 ?_ | refine z6 ?_ | refine x6 ?_)
   | (refine z9 ?_;simp only [nm])
   | refine le_of_eq ?_
  all_goals grind
set_option maxHeartbeats 1000000 in
theorem a3m (C:Laid P) (l:List Ob) (x:Sn) (hl:l.length<2 ^ 62):j7 P G y0 [.sl 7 (List.map i6 l),.func (.func m8) [] [.ref (z7 x)]] [] (.bool (tt (∃ o ∈ l,o4 x.heap.length o))):=by
 refine i5 C (V9 C) rfl ?_
 repeat' ((conv=>whnf);first | (with_reducible refine sC (by kernel_rfl) ?_) | ((first | (with_reducible first | refine sB ?_ | refine o8 ?_ | refine o7 ?_) | refine sP (by rfl) ?_);first | refine oT ?_ | refine oF ?_ | (refine Or.inr (Or.inr ⟨fun hsp=>?_,fun hsp=>?_⟩) <;>(try simp only [nm] at hsp) <;>try subst hsp)) | refine ⟨_,_,a5w C l x hl,?_⟩ | fail)
 all_goals (conv=>whnf)
 all_goals (first | (with_reducible refine z6 ?_) | (with_reducible refine x6 ?_) | (refine z9 ?_;try simp (disch:=omega) only [nm,wrap_small])) <;>(exact c3N _ l 0)
set_option maxHeartbeats 1000000 in
theorem F8 (C:Laid P) (l:List Ob) (x:Sn) (hl:l.length<2 ^ 62):j7 P G J0 [.sl 7 (List.map i6 l),.func (.func m8) [] [.ref (z7 x)]] [] (.bool (tt (∃ o ∈ l,o4 x.heap.length o))):=by
 refine i5 C (a6s C) rfl ?_
 repeat' ((conv=>whnf);first | (with_reducible refine sC (by kernel_rfl) ?_) | ((first | (with_reducible first | refine sB ?_ | refine o8 ?_ | refine o7 ?_) | refine sP (by rfl) ?_);first | refine oT ?_ | refine oF ?_ | (refine Or.inr (Or.inr ⟨fun hsp=>?_,fun hsp=>?_⟩) <;>(try simp only [nm] at hsp) <;>try subst hsp)) | refine ⟨_,_,a3m C l x hl,?_⟩ | fail)
 all_goals (conv=>whnf)
 all_goals (exact PV.le.refl _)
end Go.Ab.Td
namespace Go.Ab.Td
set_option maxRecDepth 100000
set_option maxRecDepth 100000
open Go Go.Ab
variable {P:Program}
set_option linter.unusedSimpArgs false
attribute [local irreducible] f0
set_option maxHeartbeats 1000000 in
theorem a6V (C:Laid P) (s:F2):j7 P G F0 [aS s] [] (.func (.func m0) [] [.ref (c6J s)]):=by
 refine i5 C (a2A C) rfl ?_
 repeat' ((conv=>whnf);first | (with_reducible refine sC (by kernel_rfl) ?_) | ((first | (with_reducible first | refine sB ?_ | refine o8 ?_ | refine o7 ?_) | refine sP (by rfl) ?_);first | refine oT ?_ | refine oF ?_ | (refine Or.inr (Or.inr ⟨fun hsp=>?_,fun hsp=>?_⟩) <;>(try simp only [nm] at hsp) <;>try subst hsp)) | fail)
 all_goals (conv=>whnf)
 all_goals (exact PV.le.refl _)
set_option maxHeartbeats 4000000 in
theorem L9 (C:Laid P) (s:F2) (l:List Sn) (n:Int) (hq:s.f3=l.map z7) (hl:l.length≤1000000):j7 P G C3 [aS s,pI n] [] (pI (plF n 0 l)):=by
 refine c4q C (a3r C) rfl ?_
 have hlen:s.f3.length=l.length:=by rw [hq,List.length_map]
 repeat' ((conv=>whnf);first | (with_reducible refine sC (by kernel_rfl) ?_) | ((first | (with_reducible first | refine sB ?_ | refine o8 ?_ | refine o7 ?_) | refine sP (by rfl) ?_);first | refine Or.inl ⟨by first | assumption | (simp only [nm,hlen];first | done | assumption | omega),?_⟩ | refine Or.inr (Or.inl ⟨by first | assumption | (simp only [nm,hlen];first | done | assumption | omega),?_⟩) | (refine Or.inr (Or.inr ⟨fun hsp=>?_,fun hsp=>?_⟩) <;>(try simp only [nm,hlen] at hsp) <;>try subst hsp)) | refine ⟨_,_,a6V C s,?_⟩ | fail)
 all_goals (conv=>whnf)
 intro X hX hW
 refine c2h hX hW (fun st (i:Nat)=>st.upd [(9,.pv (pI (i:Int)))] []) (fun i k=>i+k=l.length∧plF n 0 l=plF n i (l.drop i)) 0 l.length (by (conv=>whnf);first | done | rfl) ⟨by simp,by simp⟩ ?_
 intro m i ih hI
 rcases a0E l i with ⟨x,hlt,hx⟩ | hge
 ·have hrow:s.f3[(i:Int).toNat]?=some (z7 x):=by rw [hq];exact y2 (f:=z7) hx
  have hd:=Z7 hx
  have hI2:=hI.2
  rw [hd] at hI2
  simp only [plF] at hI2
  by_cases hn:x.n=n
  ·rw [if_pos hn] at hI2
   rw [hI2]
   repeat' ((conv=>whnf);first | (with_reducible refine sC (by kernel_rfl) ?_) | ((first | (with_reducible first | refine sB ?_ | refine o8 ?_ | refine o7 ?_) | refine sP (by rfl) ?_);first | refine Or.inl ⟨by first | assumption | (simp only [nm,hlen];first | done | assumption | omega),?_⟩ | refine Or.inr (Or.inl ⟨by first | assumption | (simp only [nm,hlen];first | done | assumption | omega),?_⟩) | (refine Or.inr (Or.inr ⟨fun hsp=>?_,fun hsp=>?_⟩) <;>(try simp only [nm,hlen] at hsp) <;>try subst hsp)) | refine sS (e7 (by rfl) (by rfl) (by omega) hrow) ?_ | fail)
   all_goals (conv=>whnf)
   all_goals exact PV.le.refl _
  ·rw [if_neg hn] at hI2
   repeat' ((conv=>whnf);first | (with_reducible refine sC (by kernel_rfl) ?_) | ((first | (with_reducible first | refine sB ?_ | refine o8 ?_ | refine o7 ?_) | refine sP (by rfl) ?_);first | refine Or.inl ⟨by first | assumption | (simp only [nm,hlen];first | done | assumption | omega),?_⟩ | refine Or.inr (Or.inl ⟨by first | assumption | (simp only [nm,hlen];first | done | assumption | omega),?_⟩) | (refine Or.inr (Or.inr ⟨fun hsp=>?_,fun hsp=>?_⟩) <;>(try simp only [nm,hlen] at hsp) <;>try subst hsp)) | refine sS (e7 (by rfl) (by rfl) (by omega) hrow) ?_ | fail)
   all_goals (conv=>whnf)
   all_goals (refine ih (m - 1) (i+1) _ (by omega) ⟨by (try dsimp only);omega,hI2⟩ (by (conv=>whnf);first | done | rfl | (simp (disch:=omega) only [p9])))
 ·have hd:l.drop i=[]:=List.drop_eq_nil_of_le hge
  have hI2:=hI.2
  rw [hd] at hI2
  simp only [plF] at hI2
  rw [hI2]
  repeat' ((conv=>whnf);first | (with_reducible refine sC (by kernel_rfl) ?_) | ((first | (with_reducible first | refine sB ?_ | refine o8 ?_ | refine o7 ?_) | refine sP (by rfl) ?_);first | refine Or.inl ⟨by first | assumption | (simp only [nm,hlen];first | done | assumption | omega),?_⟩ | refine Or.inr (Or.inl ⟨by first | assumption | (simp only [nm,hlen];first | done | assumption | omega),?_⟩) | (refine Or.inr (Or.inr ⟨fun hsp=>?_,fun hsp=>?_⟩) <;>(try simp only [nm,hlen] at hsp) <;>try subst hsp)) | fail)
  all_goals (conv=>whnf)
  all_goals exact PV.le.refl _
end Go.Ab.Td

/- A part of the proof: the texts TdN, TdUk, TdRu0, TdRu1. Under: nothing. -/
import Derived.Test.YtngmifmcohmfmaaDoorG22
import Derived.Test.YtngmifmcohmfmaaDoorG23
import Derived.Test.YtngmifmcohmfmaaDoorG14
import Derived.Test.YtngmifmcohmfmaaDoorG11
import Derived.Test.YtngmifmcohmfmaaDoorG20
import Derived.Test.YtngmifmcohmfmaaDoorG18
import Derived.Test.YtngmifmcohmfmaaDoorG10
import Derived.Test.YtngmifmcohmfmaaDoorG19
import Derived.Test.YtngmifmcohmfmaaDoorG05
import Derived.Test.YtngmifmcohmfmaaDoorG16
import Derived.Test.YtngmifmcohmfmaaDoorG12
set_option linter.unusedVariables false
namespace Go.Ab.Td
set_option maxRecDepth 100000
open Go Go.Ab
variable {P:Program}
set_option linter.unusedSimpArgs false
set_option linter.unusedVariables false
attribute [local irreducible] d8
end Go.Ab.Td
namespace Go.Ab.Td
set_option maxRecDepth 100000
set_option maxRecDepth 100000
open Go Go.Ab
variable {P:Program}
set_option linter.unusedSimpArgs false
attribute [local irreducible] d8
def c3z:List (List UInt8):=[[115,97,118,101],[114,101,115,116,111,114,101],[118,109,115,116,97,116,117,115]]
set_option maxHeartbeats 1000000 in
theorem a3h (C:Laid P):j6 P G a1z [] [] (.sl 1 (c3z.map fun x=>[PV.str x])):=by
 refine i7 C (b3o C) rfl ?_
 repeat' ((conv=>whnf);first | (with_reducible refine sC (by kernel_rfl) ?_) | ((first | (with_reducible first | refine sB ?_ | refine x8 ?_ | refine x9 ?_) | refine sP (by rfl) ?_);first | refine oT ?_ | refine oF ?_ | (refine Or.inr (Or.inr ⟨fun hsp=>?_,fun hsp=>?_⟩) <;>(try simp only [nm] at hsp) <;>try subst hsp)) | fail)
 all_goals (conv=>whnf)
 all_goals (exact PV.le.refl _)
set_option maxHeartbeats 1000000 in
theorem b5i (C:Laid P) (w K A B N:Int) (S:List UInt8) (hw:w.tmod 8=0):j6 P G w8 [.agg [.int .u8 w,.int .u8 K,.int .u8 A,.int .u8 B,.int .i32 N,.str S]] [] (.str [115,97,118,101]):=by
 refine i7 C (R2 C) rfl ?_
 have ht0:0≤w.tmod 8:=by omega
 have hcs:(c3z.map fun x=>[PV.str x])[(w.tmod 8).toNat]?=some [PV.str [115,97,118,101]]:=by rw [hw];rfl
 repeat' ((conv=>whnf);first | (with_reducible refine sC (by kernel_rfl) ?_) | ((first | (with_reducible first | refine sB ?_ | refine x8 ?_ | refine x9 ?_) | refine sP (by rfl) ?_);first | refine Or.inl ⟨by first | assumption | (simp only [nm,hw];first | done | assumption | omega),?_⟩ | refine Or.inr (Or.inl ⟨by first | assumption | (simp only [nm,hw];first | done | assumption | omega),?_⟩) | (refine Or.inr (Or.inr ⟨fun hsp=>?_,fun hsp=>?_⟩) <;>(try simp only [nm,hw] at hsp) <;>try subst hsp)) | refine ⟨_,_,a3h C,?_⟩ | refine sS (a4m (by rfl) (by rfl) (by decide)) ?_ | refine sS (b4O (by rfl) (by rfl) ht0 hcs) ?_ | fail)
 all_goals (conv=>whnf)
 all_goals (first | exact PV.le.refl _ | (exfalso;omega))
set_option maxHeartbeats 1000000 in
theorem b0W (C:Laid P) (w K A B N:Int) (S:List UInt8) (hw:w.tmod 8=1):j6 P G w8 [.agg [.int .u8 w,.int .u8 K,.int .u8 A,.int .u8 B,.int .i32 N,.str S]] [] (.str [114,101,115,116,111,114,101]):=by
 refine i7 C (R2 C) rfl ?_
 have ht0:0≤w.tmod 8:=by omega
 have hcs:(c3z.map fun x=>[PV.str x])[(w.tmod 8).toNat]?=some [PV.str [114,101,115,116,111,114,101]]:=by rw [hw];rfl
 repeat' ((conv=>whnf);first | (with_reducible refine sC (by kernel_rfl) ?_) | ((first | (with_reducible first | refine sB ?_ | refine x8 ?_ | refine x9 ?_) | refine sP (by rfl) ?_);first | refine Or.inl ⟨by first | assumption | (simp only [nm,hw];first | done | assumption | omega),?_⟩ | refine Or.inr (Or.inl ⟨by first | assumption | (simp only [nm,hw];first | done | assumption | omega),?_⟩) | (refine Or.inr (Or.inr ⟨fun hsp=>?_,fun hsp=>?_⟩) <;>(try simp only [nm,hw] at hsp) <;>try subst hsp)) | refine ⟨_,_,a3h C,?_⟩ | refine sS (a4m (by rfl) (by rfl) (by decide)) ?_ | refine sS (b4O (by rfl) (by rfl) ht0 hcs) ?_ | fail)
 all_goals (conv=>whnf)
 all_goals (first | exact PV.le.refl _ | (exfalso;omega))
set_option maxHeartbeats 1000000 in
theorem b0a (C:Laid P) (w K A B N:Int) (S:List UInt8) (hw:w.tmod 8=2):j6 P G w8 [.agg [.int .u8 w,.int .u8 K,.int .u8 A,.int .u8 B,.int .i32 N,.str S]] [] (.str [118,109,115,116,97,116,117,115]):=by
 refine i7 C (R2 C) rfl ?_
 have ht0:0≤w.tmod 8:=by omega
 have hcs:(c3z.map fun x=>[PV.str x])[(w.tmod 8).toNat]?=some [PV.str [118,109,115,116,97,116,117,115]]:=by rw [hw];rfl
 repeat' ((conv=>whnf);first | (with_reducible refine sC (by kernel_rfl) ?_) | ((first | (with_reducible first | refine sB ?_ | refine x8 ?_ | refine x9 ?_) | refine sP (by rfl) ?_);first | refine Or.inl ⟨by first | assumption | (simp only [nm,hw];first | done | assumption | omega),?_⟩ | refine Or.inr (Or.inl ⟨by first | assumption | (simp only [nm,hw];first | done | assumption | omega),?_⟩) | (refine Or.inr (Or.inr ⟨fun hsp=>?_,fun hsp=>?_⟩) <;>(try simp only [nm,hw] at hsp) <;>try subst hsp)) | refine ⟨_,_,a3h C,?_⟩ | refine sS (a4m (by rfl) (by rfl) (by decide)) ?_ | refine sS (b4O (by rfl) (by rfl) ht0 hcs) ?_ | fail)
 all_goals (conv=>whnf)
 all_goals (first | exact PV.le.refl _ | (exfalso;omega))
set_option maxHeartbeats 1000000 in
theorem b5h (C:Laid P) (w K A B N:Int) (S:List UInt8) (hw:3≤w.tmod 8):j6 P G w8 [.agg [.int .u8 w,.int .u8 K,.int .u8 A,.int .u8 B,.int .i32 N,.str S]] [] (.str []):=by
 refine i7 C (R2 C) rfl ?_
 repeat' ((conv=>whnf);first | (with_reducible refine sC (by kernel_rfl) ?_) | ((first | (with_reducible first | refine sB ?_ | refine x8 ?_ | refine x9 ?_) | refine sP (by rfl) ?_);first | refine oT ?_ | refine oF ?_ | (refine Or.inr (Or.inr ⟨fun hsp=>?_,fun hsp=>?_⟩) <;>(try simp only [nm] at hsp) <;>try subst hsp)) | fail)
 all_goals (conv=>whnf)
 all_goals (first | exact PV.le.refl _ | (exfalso;omega))
end Go.Ab.Td
namespace Go.Ab.Td
set_option maxRecDepth 100000
set_option maxRecDepth 100000
open Go Go.Ab
variable {P:Program}
set_option linter.unusedSimpArgs false
attribute [local irreducible] d8
theorem c2H {s:B4} (hst:c4T s) (hv:a5U s.heap) (hk:∀ o ∈ s.ops,o.kind≠12):SI False 0 {s with f45:=1} [] []∧SX {s with f45:=1}:=by
 obtain ⟨ops,d9,heap,rfl,hh,h20,hn,hd2,hd6,hdd⟩:=hst
 have hl:=hh.len
 obtain ⟨more,e, -, -⟩:=id hh
 have h10:10≤heap.length:=by rw [e,List.length_append];show 10≤10+_;omega
 refine ⟨⟨rfl,rfl,⟨hv.valid,⟨h10,by show heap.length≤60;omega⟩,hv.2.2,fun c hc=>a7b.nC (hh.ok c hc)⟩,by show ops.length≤100;omega,fun h=>h.elim,hn,by show d9.length≤20;omega,fun h=>h.elim,by simp,rfl,by simp,by simp,by show (0:Int)≤0∧(0:Int)≤((0:Nat):Int);omega⟩,fun o ho h12=>absurd h12 (hk o ho)⟩
end Go.Ab.Td
namespace Go.Ab.Td
set_option maxRecDepth 100000
set_option maxRecDepth 100000
open Go Go.Ab
variable {P:Program}
set_option linter.unusedSimpArgs false
attribute [local irreducible] d8
def b2R (p:Int × Wd):List PV:=c4H p.1 p.2
theorem c3m {qs:List PV} (h:b5P qs (.int .u8::a3p)):∃ p:Int × Wd,qs=b2R p∧(0≤p.1∧p.1<256):=by
 obtain ⟨a,b,rfl,h1,h2⟩:=b5P.split (ts:=[.int .u8]) (r:=a3p) h
 obtain ⟨w,rfl⟩:=c1z h2
 match a,h1.1 with
 | [q],_=>
   have k:=h1.2 0 _ _ rfl rfl
   cases k with
   | int hw=>exact ⟨(_,w),rfl,b9w hw⟩
theorem c1y {p:PV} (h:a9A (false,[.sl (.int .u8::a3p)]) p):∃ l:List (Int × Wd),p= .sl 6 (l.map b2R)∧∀ x ∈ l,0≤x.1∧x.1<256:=by
 obtain ⟨qs,e,hl,h⟩:=h
 simp only [a8y] at e
 subst e
 have k:=h 0 _ _ rfl rfl
 cases k with
 | sl w g=>
   obtain ⟨l,rfl,q⟩:=b8W (fun qs h=>c3m h) _ w g
   exact ⟨l,rfl,q⟩
set_option maxHeartbeats 1000000 in
theorem b5k (C:Laid P) (l:List (Int × Wd)):j6 P G a3M [.sl 6 (l.map b2R)] [] (.sl 6 ((l.take (60:Int).toNat).map b2R)):=by
 refine i7 C (b6i C) rfl ?_
 repeat' ((conv=>whnf);first | (with_reducible refine sC (by kernel_rfl) ?_) | ((first | (with_reducible first | refine sB ?_ | refine x8 ?_ | refine x9 ?_) | refine sP (by rfl) ?_);first | refine oT ?_ | refine oF ?_ | (refine Or.inr (Or.inr ⟨fun hsp=>?_,fun hsp=>?_⟩) <;>(try simp only [nm] at hsp) <;>try subst hsp)) | refine sS (b4o (f:=b2R) (by rfl) (by rfl) (by decide)) ?_ | fail)
 all_goals (conv=>whnf)
 all_goals (exact PV.le.refl _)
end Go.Ab.Td

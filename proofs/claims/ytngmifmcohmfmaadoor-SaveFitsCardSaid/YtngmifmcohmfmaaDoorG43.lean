/- A part of the proof: the texts TdN, TdUk, TdW19, TdSf, TdRu0, TdRu1. Under: nothing. -/
import Derived.Test.YtngmifmcohmfmaaDoorG41
import Derived.Test.YtngmifmcohmfmaaDoorG42
import Derived.Test.YtngmifmcohmfmaaDoorG25
import Derived.Test.YtngmifmcohmfmaaDoorG31
import Derived.Test.YtngmifmcohmfmaaDoorG07
import Derived.Test.YtngmifmcohmfmaaDoorG05
import Derived.KernelRfl
import Derived.Test.YtngmifmcohmfmaaDoorG13
import Derived.Test.YtngmifmcohmfmaaDoorG22
import Derived.Test.YtngmifmcohmfmaaDoorG23
import Derived.Test.YtngmifmcohmfmaaDoorG35
import Derived.Test.YtngmifmcohmfmaaDoorG37
import Derived.Test.YtngmifmcohmfmaaDoorG38
import Derived.Test.YtngmifmcohmfmaaDoorG29
import Derived.Test.YtngmifmcohmfmaaDoorG26
set_option linter.unusedVariables false
namespace Go.Ab.Td
set_option maxRecDepth 100000
open Go Go.Ab
variable {P:Program}
set_option linter.unusedSimpArgs false
set_option linter.unusedVariables false
attribute [local irreducible] f0
end Go.Ab.Td
namespace Go.Ab.Td
set_option maxRecDepth 100000
set_option maxRecDepth 100000
open Go Go.Ab
variable {P:Program}
set_option linter.unusedSimpArgs false
attribute [local irreducible] f0
def c4P:List (List UInt8):=[[115,97,118,101],[114,101,115,116,111,114,101],[118,109,115,116,97,116,117,115]]
set_option maxHeartbeats 1000000 in
theorem a3K (C:Laid P):j5 P G a1X [] [] (.sl 1 (c4P.map fun x=>[PV.str x])):=by
 refine i5 C (b4p C) rfl ?_
 repeat' ((conv=>whnf);first | (with_reducible refine sC (by kernel_rfl) ?_) | ((first | (with_reducible first | refine sB ?_ | refine p8 ?_ | refine p9 ?_) | refine sP (by rfl) ?_);first | refine oT ?_ | refine oF ?_ | (refine Or.inr (Or.inr ⟨fun hsp=>?_,fun hsp=>?_⟩) <;>(try simp only [nm] at hsp) <;>try subst hsp)) | fail)
 all_goals (conv=>whnf)
 all_goals (exact PV.le.refl _)
set_option maxHeartbeats 1000000 in
theorem a9P (C:Laid P) (w K A B N:Int) (S:List UInt8) (hw:w.tmod 8=0):j5 P G q0 [.agg [.int .u8 w,.int .u8 K,.int .u8 A,.int .u8 B,.int .i32 N,.str S]] [] (.str [115,97,118,101]):=by
 refine i5 C (T3 C) rfl ?_
 have ht0:0≤w.tmod 8:=by omega
 have hcs:(c4P.map fun x=>[PV.str x])[(w.tmod 8).toNat]?=some [PV.str [115,97,118,101]]:=by rw [hw];rfl
 repeat' ((conv=>whnf);first | (with_reducible refine sC (by kernel_rfl) ?_) | ((first | (with_reducible first | refine sB ?_ | refine p8 ?_ | refine p9 ?_) | refine sP (by rfl) ?_);first | refine Or.inl ⟨by first | assumption | (simp only [nm,hw];first | done | assumption | omega),?_⟩ | refine Or.inr (Or.inl ⟨by first | assumption | (simp only [nm,hw];first | done | assumption | omega),?_⟩) | (refine Or.inr (Or.inr ⟨fun hsp=>?_,fun hsp=>?_⟩) <;>(try simp only [nm,hw] at hsp) <;>try subst hsp)) | refine ⟨_,_,a3K C,?_⟩ | refine sS (a1g (by rfl) (by rfl) (by decide)) ?_ | refine sS (b5W (by rfl) (by rfl) ht0 hcs) ?_ | fail)
 all_goals (conv=>whnf)
 all_goals (first | exact PV.le.refl _ | (exfalso;omega))
set_option maxHeartbeats 1000000 in
theorem a6z (C:Laid P) (w K A B N:Int) (S:List UInt8) (hw:w.tmod 8=1):j5 P G q0 [.agg [.int .u8 w,.int .u8 K,.int .u8 A,.int .u8 B,.int .i32 N,.str S]] [] (.str [114,101,115,116,111,114,101]):=by
 refine i5 C (T3 C) rfl ?_
 have ht0:0≤w.tmod 8:=by omega
 have hcs:(c4P.map fun x=>[PV.str x])[(w.tmod 8).toNat]?=some [PV.str [114,101,115,116,111,114,101]]:=by rw [hw];rfl
 repeat' ((conv=>whnf);first | (with_reducible refine sC (by kernel_rfl) ?_) | ((first | (with_reducible first | refine sB ?_ | refine p8 ?_ | refine p9 ?_) | refine sP (by rfl) ?_);first | refine Or.inl ⟨by first | assumption | (simp only [nm,hw];first | done | assumption | omega),?_⟩ | refine Or.inr (Or.inl ⟨by first | assumption | (simp only [nm,hw];first | done | assumption | omega),?_⟩) | (refine Or.inr (Or.inr ⟨fun hsp=>?_,fun hsp=>?_⟩) <;>(try simp only [nm,hw] at hsp) <;>try subst hsp)) | refine ⟨_,_,a3K C,?_⟩ | refine sS (a1g (by rfl) (by rfl) (by decide)) ?_ | refine sS (b5W (by rfl) (by rfl) ht0 hcs) ?_ | fail)
 all_goals (conv=>whnf)
 all_goals (first | exact PV.le.refl _ | (exfalso;omega))
set_option maxHeartbeats 1000000 in
theorem a5n (C:Laid P) (w K A B N:Int) (S:List UInt8) (hw:w.tmod 8=2):j5 P G q0 [.agg [.int .u8 w,.int .u8 K,.int .u8 A,.int .u8 B,.int .i32 N,.str S]] [] (.str [118,109,115,116,97,116,117,115]):=by
 refine i5 C (T3 C) rfl ?_
 have ht0:0≤w.tmod 8:=by omega
 have hcs:(c4P.map fun x=>[PV.str x])[(w.tmod 8).toNat]?=some [PV.str [118,109,115,116,97,116,117,115]]:=by rw [hw];rfl
 repeat' ((conv=>whnf);first | (with_reducible refine sC (by kernel_rfl) ?_) | ((first | (with_reducible first | refine sB ?_ | refine p8 ?_ | refine p9 ?_) | refine sP (by rfl) ?_);first | refine Or.inl ⟨by first | assumption | (simp only [nm,hw];first | done | assumption | omega),?_⟩ | refine Or.inr (Or.inl ⟨by first | assumption | (simp only [nm,hw];first | done | assumption | omega),?_⟩) | (refine Or.inr (Or.inr ⟨fun hsp=>?_,fun hsp=>?_⟩) <;>(try simp only [nm,hw] at hsp) <;>try subst hsp)) | refine ⟨_,_,a3K C,?_⟩ | refine sS (a1g (by rfl) (by rfl) (by decide)) ?_ | refine sS (b5W (by rfl) (by rfl) ht0 hcs) ?_ | fail)
 all_goals (conv=>whnf)
 all_goals (first | exact PV.le.refl _ | (exfalso;omega))
set_option maxHeartbeats 1000000 in
theorem b6r (C:Laid P) (w K A B N:Int) (S:List UInt8) (hw:3≤w.tmod 8):j5 P G q0 [.agg [.int .u8 w,.int .u8 K,.int .u8 A,.int .u8 B,.int .i32 N,.str S]] [] (.str []):=by
 refine i5 C (T3 C) rfl ?_
 repeat' ((conv=>whnf);first | (with_reducible refine sC (by kernel_rfl) ?_) | ((first | (with_reducible first | refine sB ?_ | refine p8 ?_ | refine p9 ?_) | refine sP (by rfl) ?_);first | refine oT ?_ | refine oF ?_ | (refine Or.inr (Or.inr ⟨fun hsp=>?_,fun hsp=>?_⟩) <;>(try simp only [nm] at hsp) <;>try subst hsp)) | fail)
 all_goals (conv=>whnf)
 all_goals (first | exact PV.le.refl _ | (exfalso;omega))
end Go.Ab.Td
namespace Go.Ab.Td.TdW19
set_option maxRecDepth 100000
set_option maxRecDepth 100000
open Go Go.Ab Go.Ab.Td
variable {P:Program}
set_option linter.unusedSimpArgs false
def a1j:TF:=(.node (.node (.node (.node (.node (.node .nil (.node (.leaf F3 X1) (.leaf C8 a0j))) (.leaf z8 C3)) (.node (.node (.node (.leaf m8 O8) (.leaf k7 G7)) (.leaf o4 T9)) (.leaf C7 b0q))) (.node (.node (.leaf H5 U0) (.node (.leaf L0 a5O) (.node (.node (.leaf G1 V3) (.leaf y7 I9)) .nil))) (.node (.leaf o9 M8) (.node (.node (.leaf O6 a4c) (.leaf x4 a0k)) (.leaf C9 G8))))) (.node (.node .nil (.node (.node (.leaf A2 Y0) (.node (.leaf Q0 a2U) (.leaf G0 X9))) (.node (.leaf a3g a5N) (.leaf J2 Z4)))) (.node (.node (.node .nil (.node (.node (.leaf A6 a2h) (.leaf u9 F0)) .nil)) (.leaf v8 C2)) (.node (.leaf y1 M9) (.node (.node (.leaf Q2 a2V) (.leaf u0 O9)) (.leaf B3 P1)))))) (.node (.node (.node (.leaf F7 a2P) (.node (.node (.node (.leaf y2 a0M) (.leaf m7 P0)) (.leaf B5 Q7)) (.leaf o5 S9))) (.node (.node (.leaf r9 D6) (.node (.leaf L7 a4B) (.leaf n5 v3))) (.node (.node (.node (.leaf D8 J7) (.leaf C6 G6)) (.leaf u6 L4)) (.node (.node (.leaf n8 N2) (.leaf l5 R9)) .nil)))) (.node (.node (.node (.leaf O4 a3Z) (.leaf R3 a1N)) (.node (.leaf N7 V2) (.leaf D5 a2W))) (.node (.node (.node (.leaf L8 a1P) (.leaf n7 A5)) (.leaf V9 a2R)) (.node (.leaf R4 a4C) (.node (.node (.leaf J3 a2z) (.leaf u7 V4)) .nil))))))
def a1k:TF:=.nil
def b3R:TF:=(.node (.leaf m8 O8) (.node (.leaf u6 L4) (.node (.leaf R3 a1N) (.leaf V9 a2R))))
def b3S:TF:=(.leaf n5 v3)
def c9e:List AV:=[.pv (.int .i64 (0)),.pv (.bool false),.pv (.int .i64 (0)),.pv (.str []),.pv (.int .i64 (0)),.pv (.int .i64 (0)),.pv (.int .i64 (0))]
def ext (g:Nat):Option a2w:=match Nat.beq g k7 with | true=>some (a8B 7 64) | false=>none
theorem c2j (C:Laid P):a1j.all (d8 P)=true:=by simp only [a1j,TF.all,b4m C,a8k C,a9E C,a7y C,a0X C,b6l C,a5W C,a6Y C,a4g C,a5Z C,a1F C,a6r C,a4G C,H2 C,a0p C,a0o C,a8j C,a9I C,P4 C,v7 C,P5 C,a1G C,a3F C,a0T C,a0b C,a1R C,Y2 C,V6 C,a3b C,a4F C,a5j C,a1D C,a2l C,a1E C,a3c C,a4k C,a0w C,a6a C,a6v C,a2I C,a0U C,K2 C,M3 C,E3 C,S4 C,W8 C,S3 C,I2 C,a0r C,a0Y C,Bool.and_self]
theorem c2l (_C:Laid P):a1k.all (d8 P)=true:=by simp only [a1k,TF.all,Bool.and_self]
theorem c2k (C:Laid P):b3R.all (d8 P)=true:=by simp only [b3R,TF.all,V6 C,Y2 C,a8j C,a9E C,Bool.and_self]
theorem a5i (C:Laid P):N3 P n5 v3=true:=by
 unfold N3
 rw [S3 C]
 kernel_rfl
theorem c2m (C:Laid P):b3S.all (N3 P)=true:=by simp only [b3S,TF.all,a5i C,Bool.and_self]
theorem c2u:G7=a6Q 7 64 c9e:=rfl
theorem b7j (C:Laid P):a3X P G fun g=>(ext g).map a6D:=by
 intro g h hg
 cases hb:Nat.beq g k7 with
 | true=>
   have:=Nat.eq_of_beq_eq_true hb
   subst this
   cases hg
   exact c2v C.mixed (by rw [← c2u];exact H2 C)
 | false=>
   have:ext g=none:=by unfold ext;rw [hb]
   simp only [this] at hg
   cases hg
theorem a9J:∀ g ps own r,kn0 g ps=some (own,r)→j5 P G g ps own r:=fun _ _ _ _ h=>by cases h
theorem run:isR [] (.bool true) ((a5b G kn0 ext b3R.fn b3S.fn a1j.fn a1k.fn 10000 20).call R4 [])=true:=by kernel_rfl
theorem ok (C:Laid P):j5 P G R4 [] [] (.bool true):=a7D C.mixed a9J (b7j C) (TF.d6 (c2k C)) (TF.d6 (c2m C)) (TF.d6 (c2j C)) (TF.d6 (c2l C)) (b6c run)
end Go.Ab.Td.TdW19
namespace Go.Ab.Td
set_option maxRecDepth 100000
set_option maxRecDepth 100000
open Go Go.Ab
variable {P:Program}
set_option linter.unusedSimpArgs false
attribute [local irreducible] f0
set_option maxHeartbeats 1000000 in
theorem b3s (C:Laid P) (n:Int):j5 P G L7 [pI n] [] (aO (svO n)):=by
 refine i5 C (a8k C) rfl ?_
 repeat' ((conv=>whnf);first | (with_reducible refine sC (by kernel_rfl) ?_) | ((first | (with_reducible first | refine sB ?_ | refine p8 ?_ | refine p9 ?_) | refine sP (by rfl) ?_);first | refine oT ?_ | refine oF ?_ | (refine Or.inr (Or.inr ⟨fun hsp=>?_,fun hsp=>?_⟩) <;>(try simp only [nm] at hsp) <;>try subst hsp)) | fail)
 all_goals (conv=>whnf)
 all_goals (exact PV.le.refl _)
set_option maxHeartbeats 8000000 in
theorem b3t (C:Laid P) (cells ops e8:List (List PV)) (s:x6) (ks:j5 P G F2 [.agg [.sl 5 cells,.sl 5 ops,.sl 1 e8]] [] (aS s)):j5 P G a1U [.agg [.sl 5 cells,.sl 5 ops,.sl 1 e8]] [] (aS {s with f45:=1}):=by
 refine i5 C (b4l C) rfl ?_
 repeat' ((conv=>whnf);first | (with_reducible refine sC (by kernel_rfl) ?_) | ((first | (with_reducible first | refine sB ?_ | refine p8 ?_ | refine p9 ?_) | refine sP (by rfl) ?_);first | refine oT ?_ | refine oF ?_ | (refine Or.inr (Or.inr ⟨fun hsp=>?_,fun hsp=>?_⟩) <;>(try simp only [nm] at hsp) <;>try subst hsp)) | refine ⟨_,_,ks,?_⟩ | fail)
 all_goals (conv=>whnf)
 all_goals (exact PV.le.refl _)
end Go.Ab.Td
namespace Go.Ab.Td
set_option maxRecDepth 100000
set_option maxRecDepth 100000
open Go Go.Ab
variable {P:Program}
set_option linter.unusedSimpArgs false
attribute [local irreducible] f0
theorem c3R {s:x6} (hst:c4u s) (hv:a3r s.heap) (hk:∀ o ∈ s.ops,o.kind≠12):SI False 0 {s with f45:=1} [] []∧SX {s with f45:=1}:=by
 obtain ⟨ops,e8,heap,rfl,hh,h20,hn,hd2,hd6,hdd⟩:=hst
 have hl:=hh.len
 obtain ⟨more,e, -, -⟩:=id hh
 have h10:10≤heap.length:=by rw [e,List.length_append];show 10≤10+_;omega
 refine ⟨⟨rfl,rfl,⟨hv.valid,⟨h10,by show heap.length≤60;omega⟩,hv.2.2,fun c hc=>a7K.nC (hh.ok c hc)⟩,by show ops.length≤100;omega,fun h=>h.elim,hn,by show e8.length≤20;omega,fun h=>h.elim,by simp,rfl,by simp,by simp,by show (0:Int)≤0∧(0:Int)≤((0:Nat):Int);omega⟩,fun o ho h12=>absurd h12 (hk o ho)⟩
end Go.Ab.Td
namespace Go.Ab.Td
set_option maxRecDepth 100000
set_option maxRecDepth 100000
open Go Go.Ab
variable {P:Program}
set_option linter.unusedSimpArgs false
attribute [local irreducible] f0
def a6C (p:Int × Wd):List PV:=c5X p.1 p.2
theorem c4D {qs:List PV} (h:b6Y qs (.int .u8::a6o)):∃ p:Int × Wd,qs=a6C p∧(0≤p.1∧p.1<256):=by
 obtain ⟨a,b,rfl,h1,h2⟩:=b6Y.split (ts:=[.int .u8]) (r:=a6o) h
 obtain ⟨w,rfl⟩:=c5L h2
 match a,h1.1 with
 | [q],_=>
   have k:=h1.2 0 _ _ rfl rfl
   cases k with
   | int hw=>exact ⟨(_,w),rfl,b8j hw⟩
theorem c2F {p:PV} (h:b2E (false,[.sl (.int .u8::a6o)]) p):∃ l:List (Int × Wd),p= .sl 6 (l.map a6C)∧∀ x ∈ l,0≤x.1∧x.1<256:=by
 obtain ⟨qs,e,hl,h⟩:=h
 simp only [b2f] at e
 subst e
 have k:=h 0 _ _ rfl rfl
 cases k with
 | sl w g=>
   obtain ⟨l,rfl,q⟩:=b9H (fun qs h=>c4D h) _ w g
   exact ⟨l,rfl,q⟩
set_option maxHeartbeats 1000000 in
theorem b6t (C:Laid P) (l:List (Int × Wd)):j5 P G a4m [.sl 6 (l.map a6C)] [] (.sl 6 ((l.take (60:Int).toNat).map a6C)):=by
 refine i5 C (b7s C) rfl ?_
 repeat' ((conv=>whnf);first | (with_reducible refine sC (by kernel_rfl) ?_) | ((first | (with_reducible first | refine sB ?_ | refine p8 ?_ | refine p9 ?_) | refine sP (by rfl) ?_);first | refine oT ?_ | refine oF ?_ | (refine Or.inr (Or.inr ⟨fun hsp=>?_,fun hsp=>?_⟩) <;>(try simp only [nm] at hsp) <;>try subst hsp)) | refine sS (b0Y (f:=a6C) (by rfl) (by rfl) (by decide)) ?_ | fail)
 all_goals (conv=>whnf)
 all_goals (exact PV.le.refl _)
end Go.Ab.Td

/- A part of the proof: the texts TdN, TdUk, TdW19, TdSf, TdRu0, TdRu1. Under: nothing. -/
import Derived.Test.YtngmifmcohmfmaaDoorG42
import Derived.Test.YtngmifmcohmfmaaDoorG43
import Derived.Test.YtngmifmcohmfmaaDoorG26
import Derived.Test.YtngmifmcohmfmaaDoorG32
import Derived.Test.YtngmifmcohmfmaaDoorG08
import Derived.Test.YtngmifmcohmfmaaDoorG05
import Derived.KernelRfl
import Derived.Test.YtngmifmcohmfmaaDoorG14
import Derived.Test.YtngmifmcohmfmaaDoorG23
import Derived.Test.YtngmifmcohmfmaaDoorG24
import Derived.Test.YtngmifmcohmfmaaDoorG36
import Derived.Test.YtngmifmcohmfmaaDoorG38
import Derived.Test.YtngmifmcohmfmaaDoorG39
import Derived.Test.YtngmifmcohmfmaaDoorG30
import Derived.Test.YtngmifmcohmfmaaDoorG27
set_option linter.unusedVariables false
namespace Go.Ab.Td
set_option maxRecDepth 100000
open Go Go.Ab
variable {P:Program}
set_option linter.unusedSimpArgs false
set_option linter.unusedVariables false
attribute [local irreducible] e9
end Go.Ab.Td
namespace Go.Ab.Td
set_option maxRecDepth 100000
set_option maxRecDepth 100000
open Go Go.Ab
variable {P:Program}
set_option linter.unusedSimpArgs false
attribute [local irreducible] e9
def c5m:List (List UInt8):=[[115,97,118,101],[114,101,115,116,111,114,101],[118,109,115,116,97,116,117,115]]
set_option maxHeartbeats 1000000 in
theorem a3R (C:Laid P):j4 P G a2a [] [] (.sl 1 (c5m.map fun x=>[PV.str x])):=by
 refine i5 C (b4A C) rfl ?_
 repeat' ((conv=>whnf);first | (with_reducible refine sC (by kernel_rfl) ?_) | ((first | (with_reducible first | refine sB ?_ | refine o5 ?_ | refine o6 ?_) | refine sP (by rfl) ?_);first | refine oT ?_ | refine oF ?_ | (refine Or.inr (Or.inr ⟨fun hsp=>?_,fun hsp=>?_⟩) <;>(try simp only [nm] at hsp) <;>try subst hsp)) | fail)
 all_goals (conv=>whnf)
 all_goals (exact PV.le.refl _)
set_option maxHeartbeats 1000000 in
theorem b0h (C:Laid P) (w K A B N:Int) (S:List UInt8) (hw:w.tmod 8=0):j4 P G p7 [.agg [.int .u8 w,.int .u8 K,.int .u8 A,.int .u8 B,.int .i32 N,.str S]] [] (.str [115,97,118,101]):=by
 refine i5 C (T8 C) rfl ?_
 have ht0:0≤w.tmod 8:=by omega
 have hcs:(c5m.map fun x=>[PV.str x])[(w.tmod 8).toNat]?=some [PV.str [115,97,118,101]]:=by rw [hw];rfl
 repeat' ((conv=>whnf);first | (with_reducible refine sC (by kernel_rfl) ?_) | ((first | (with_reducible first | refine sB ?_ | refine o5 ?_ | refine o6 ?_) | refine sP (by rfl) ?_);first | refine Or.inl ⟨by first | assumption | (simp only [nm,hw];first | done | assumption | omega),?_⟩ | refine Or.inr (Or.inl ⟨by first | assumption | (simp only [nm,hw];first | done | assumption | omega),?_⟩) | (refine Or.inr (Or.inr ⟨fun hsp=>?_,fun hsp=>?_⟩) <;>(try simp only [nm,hw] at hsp) <;>try subst hsp)) | refine ⟨_,_,a3R C,?_⟩ | refine sS (a3U (by rfl) (by rfl) (by decide)) ?_ | refine sS (b6k (by rfl) (by rfl) ht0 hcs) ?_ | fail)
 all_goals (conv=>whnf)
 all_goals (first | exact PV.le.refl _ | (exfalso;omega))
set_option maxHeartbeats 1000000 in
theorem a6R (C:Laid P) (w K A B N:Int) (S:List UInt8) (hw:w.tmod 8=1):j4 P G p7 [.agg [.int .u8 w,.int .u8 K,.int .u8 A,.int .u8 B,.int .i32 N,.str S]] [] (.str [114,101,115,116,111,114,101]):=by
 refine i5 C (T8 C) rfl ?_
 have ht0:0≤w.tmod 8:=by omega
 have hcs:(c5m.map fun x=>[PV.str x])[(w.tmod 8).toNat]?=some [PV.str [114,101,115,116,111,114,101]]:=by rw [hw];rfl
 repeat' ((conv=>whnf);first | (with_reducible refine sC (by kernel_rfl) ?_) | ((first | (with_reducible first | refine sB ?_ | refine o5 ?_ | refine o6 ?_) | refine sP (by rfl) ?_);first | refine Or.inl ⟨by first | assumption | (simp only [nm,hw];first | done | assumption | omega),?_⟩ | refine Or.inr (Or.inl ⟨by first | assumption | (simp only [nm,hw];first | done | assumption | omega),?_⟩) | (refine Or.inr (Or.inr ⟨fun hsp=>?_,fun hsp=>?_⟩) <;>(try simp only [nm,hw] at hsp) <;>try subst hsp)) | refine ⟨_,_,a3R C,?_⟩ | refine sS (a3U (by rfl) (by rfl) (by decide)) ?_ | refine sS (b6k (by rfl) (by rfl) ht0 hcs) ?_ | fail)
 all_goals (conv=>whnf)
 all_goals (first | exact PV.le.refl _ | (exfalso;omega))
set_option maxHeartbeats 1000000 in
theorem a5B (C:Laid P) (w K A B N:Int) (S:List UInt8) (hw:w.tmod 8=2):j4 P G p7 [.agg [.int .u8 w,.int .u8 K,.int .u8 A,.int .u8 B,.int .i32 N,.str S]] [] (.str [118,109,115,116,97,116,117,115]):=by
 refine i5 C (T8 C) rfl ?_
 have ht0:0≤w.tmod 8:=by omega
 have hcs:(c5m.map fun x=>[PV.str x])[(w.tmod 8).toNat]?=some [PV.str [118,109,115,116,97,116,117,115]]:=by rw [hw];rfl
 repeat' ((conv=>whnf);first | (with_reducible refine sC (by kernel_rfl) ?_) | ((first | (with_reducible first | refine sB ?_ | refine o5 ?_ | refine o6 ?_) | refine sP (by rfl) ?_);first | refine Or.inl ⟨by first | assumption | (simp only [nm,hw];first | done | assumption | omega),?_⟩ | refine Or.inr (Or.inl ⟨by first | assumption | (simp only [nm,hw];first | done | assumption | omega),?_⟩) | (refine Or.inr (Or.inr ⟨fun hsp=>?_,fun hsp=>?_⟩) <;>(try simp only [nm,hw] at hsp) <;>try subst hsp)) | refine ⟨_,_,a3R C,?_⟩ | refine sS (a3U (by rfl) (by rfl) (by decide)) ?_ | refine sS (b6k (by rfl) (by rfl) ht0 hcs) ?_ | fail)
 all_goals (conv=>whnf)
 all_goals (first | exact PV.le.refl _ | (exfalso;omega))
set_option maxHeartbeats 1000000 in
theorem b6G (C:Laid P) (w K A B N:Int) (S:List UInt8) (hw:3≤w.tmod 8):j4 P G p7 [.agg [.int .u8 w,.int .u8 K,.int .u8 A,.int .u8 B,.int .i32 N,.str S]] [] (.str []):=by
 refine i5 C (T8 C) rfl ?_
 repeat' ((conv=>whnf);first | (with_reducible refine sC (by kernel_rfl) ?_) | ((first | (with_reducible first | refine sB ?_ | refine o5 ?_ | refine o6 ?_) | refine sP (by rfl) ?_);first | refine oT ?_ | refine oF ?_ | (refine Or.inr (Or.inr ⟨fun hsp=>?_,fun hsp=>?_⟩) <;>(try simp only [nm] at hsp) <;>try subst hsp)) | fail)
 all_goals (conv=>whnf)
 all_goals (first | exact PV.le.refl _ | (exfalso;omega))
end Go.Ab.Td
namespace Go.Ab.Td.TdW19
set_option maxRecDepth 100000
set_option maxRecDepth 100000
open Go Go.Ab Go.Ab.Td
variable {P:Program}
set_option linter.unusedSimpArgs false
def a1l:TF:=(.node (.node (.node (.node (.node (.node .nil (.node (.leaf F6 X7) (.leaf D2 a0m))) (.leaf z7 C5)) (.node (.node (.node (.leaf l8 P2) (.leaf s8 H2)) (.leaf n8 U5)) (.leaf A5 b0J))) (.node (.node (.leaf H8 U6) (.node (.leaf L6 a6e) (.node (.node (.leaf G6 V9) (.leaf y5 J2)) .nil))) (.node (.leaf o8 N3) (.node (.node (.leaf P1 a4j) (.leaf w8 a0n)) (.leaf D3 H3))))) (.node (.node .nil (.node (.node (.leaf z8 Y6) (.node (.leaf G3 a2U) (.leaf G5 Y5))) (.node (.leaf a3g a6d) (.leaf J6 Z9)))) (.node (.node (.node .nil (.node (.node (.leaf B5 a2k) (.leaf u6 F3)) .nil)) (.leaf v7 C4)) (.node (.leaf y0 N4) (.node (.node (.leaf Q6 a2V) (.leaf s7 P3)) (.leaf B3 P5)))))) (.node (.node (.node (.leaf G1 a2P) (.node (.node (.node (.leaf y1 a0Q) (.leaf A2 P4)) (.leaf B6 R0)) (.leaf n9 T5))) (.node (.node (.leaf q0 D9) (.node (.leaf M4 a4J) (.leaf m7 u9))) (.node (.node (.node (.leaf E1 K3) (.leaf D1 H0)) (.leaf u4 M0)) (.node (.node (.leaf n4 N7) (.leaf k7 S4)) .nil)))) (.node (.node (.node (.leaf O9 a4g) (.leaf R8 a1P)) (.node (.leaf O1 V8) (.leaf D8 a2W))) (.node (.node (.node (.leaf D6 a1R) (.leaf m9 A4)) (.leaf L0 a2R)) (.node (.leaf R9 a4K) (.node (.node (.leaf J7 a2B) (.leaf u5 W0)) .nil))))))
def a1m:TF:=.nil
def b4e:TF:=(.node (.leaf l8 P2) (.node (.leaf u4 M0) (.node (.leaf R8 a1P) (.leaf L0 a2R))))
def b4f:TF:=(.leaf m7 u9)
def c9K:List AV:=[.pv (.int .i64 (0)),.pv (.bool false),.pv (.int .i64 (0)),.pv (.str []),.pv (.int .i64 (0)),.pv (.int .i64 (0)),.pv (.int .i64 (0))]
def ext (g:Nat):Option a3v:=match Nat.beq g s8 with | true=>some (a8Q 7 64) | false=>none
theorem c2N (C:Laid P):a1l.all (b9 P)=true:=by simp only [a1l,TF.all,b4x C,a8z C,a6n C,a7N C,a1b C,b6z C,a6m C,a7p C,a4n C,a6q C,a1H C,a6I C,a4O C,a0r C,a3K C,a0q C,a8y C,b0b C,P9 C,v5 C,Q0 C,a1I C,a3I C,a0X C,a0e C,a1U C,Y8 C,W3 C,a3b C,a4N C,a5x C,a1F C,a2o C,a1G C,a3c C,a4r C,a0A C,a6r C,a6M C,a2J C,a0Y C,K7 C,M8 C,E6 C,S9 C,X4 C,S8 C,I5 C,a0t C,a1c C,Bool.and_self]
theorem c2P (_C:Laid P):a1m.all (b9 P)=true:=by simp only [a1m,TF.all,Bool.and_self]
theorem c2O (C:Laid P):b4e.all (b9 P)=true:=by simp only [b4e,TF.all,W3 C,Y8 C,a8y C,a6n C,Bool.and_self]
theorem a5w (C:Laid P):P7 P m7 u9=true:=by
 unfold P7
 rw [S8 C]
 kernel_rfl
theorem c2Q (C:Laid P):b4f.all (P7 P)=true:=by simp only [b4f,TF.all,a5w C,Bool.and_self]
theorem c2Y:H2=a7g 7 64 c9K:=rfl
theorem b5l (C:Laid P):a5f P G fun g=>(ext g).map a7j:=by
 intro g h hg
 cases hb:Nat.beq g s8 with
 | true=>
   have:=Nat.eq_of_beq_eq_true hb
   subst this
   cases hg
   exact c2Z C.mixed (by rw [← c2Y];exact a0r C)
 | false=>
   have:ext g=none:=by unfold ext;rw [hb]
   simp only [this] at hg
   cases hg
theorem b0c:∀ g ps own r,kn0 g ps=some (own,r)→j4 P G g ps own r:=fun _ _ _ _ h=>by cases h
theorem run:isR [] (.bool true) ((a5p G kn0 ext b4e.fn b4f.fn a1l.fn a1m.fn 10000 20).call R9 [])=true:=by kernel_rfl
theorem ok (C:Laid P):j4 P G R9 [] [] (.bool true):=a7T C.mixed b0c (b5l C) (TF.b8 (c2O C)) (TF.b8 (c2Q C)) (TF.b8 (c2N C)) (TF.b8 (c2P C)) (b6q run)
end Go.Ab.Td.TdW19
namespace Go.Ab.Td
set_option maxRecDepth 100000
set_option maxRecDepth 100000
open Go Go.Ab
variable {P:Program}
set_option linter.unusedSimpArgs false
attribute [local irreducible] e9
set_option maxHeartbeats 1000000 in
theorem b3G (C:Laid P) (n:Int):j4 P G M4 [pI n] [] (aO (svO n)):=by
 refine i5 C (a8z C) rfl ?_
 repeat' ((conv=>whnf);first | (with_reducible refine sC (by kernel_rfl) ?_) | ((first | (with_reducible first | refine sB ?_ | refine o5 ?_ | refine o6 ?_) | refine sP (by rfl) ?_);first | refine oT ?_ | refine oF ?_ | (refine Or.inr (Or.inr ⟨fun hsp=>?_,fun hsp=>?_⟩) <;>(try simp only [nm] at hsp) <;>try subst hsp)) | fail)
 all_goals (conv=>whnf)
 all_goals (exact PV.le.refl _)
set_option maxHeartbeats 8000000 in
theorem b3H (C:Laid P) (cells ops e6:List (List PV)) (s:v9) (ks:j4 P G F5 [.agg [.sl 5 cells,.sl 5 ops,.sl 1 e6]] [] (aS s)):j4 P G a1X [.agg [.sl 5 cells,.sl 5 ops,.sl 1 e6]] [] (aS {s with f45:=1}):=by
 refine i5 C (b4w C) rfl ?_
 repeat' ((conv=>whnf);first | (with_reducible refine sC (by kernel_rfl) ?_) | ((first | (with_reducible first | refine sB ?_ | refine o5 ?_ | refine o6 ?_) | refine sP (by rfl) ?_);first | refine oT ?_ | refine oF ?_ | (refine Or.inr (Or.inr ⟨fun hsp=>?_,fun hsp=>?_⟩) <;>(try simp only [nm] at hsp) <;>try subst hsp)) | refine ⟨_,_,ks,?_⟩ | fail)
 all_goals (conv=>whnf)
 all_goals (exact PV.le.refl _)
theorem c7k (C:Laid P) {g:Nat} {c:m8} {ps:List PV} {r:PV} (hk:b9 P g c=true) (hl:ps.length=c.nparams) (h:fnV G (j4 P G) TdW19.ext noT noT 1 c ps r):j4 P G g ps [] r:=
 a7S C.mixed hk (TdW19.b5l C) (fun _ _ h=>by cases h) (fun _ _ h=>by cases h) hl h
set_option maxHeartbeats 4000000 in
theorem b4N (C:Laid P) (s:v9) (o:Ob) (ho:s.ops=[]):j4 P G L0 [aS s,.sl 7 (List.map i4 [o])] [] (aS {s with ops:=[o]}):=by
 refine c7k C (a6n C) rfl ?_
 rw [show aS s=aS {s with ops:=[]} by rw [← ho]]
 repeat' ((conv=>whnf);first | (with_reducible refine sC (by kernel_rfl) ?_) | ((first | (with_reducible first | refine sB ?_ | refine o5 ?_ | refine o6 ?_) | refine sP (by rfl) ?_);first | refine oT ?_ | refine oF ?_ | (refine Or.inr (Or.inr ⟨fun hsp=>?_,fun hsp=>?_⟩) <;>(try simp only [nm] at hsp) <;>try subst hsp)) | refine sS (m0 (f:=i4) (l:=([]:List Ob)) (x':=[o]) (by rfl) (by rfl) (by rfl) (by first | exact f0 | exact d8 | exact d9 (by rfl) (by rfl)) (by rfl) (by simp)) ?_ | fail)
 all_goals (conv=>whnf)
 all_goals (first | exact PV.le.refl _ | (trace_state;sorry))
end Go.Ab.Td
namespace Go.Ab.Td
set_option maxRecDepth 100000
set_option maxRecDepth 100000
open Go Go.Ab
variable {P:Program}
set_option linter.unusedSimpArgs false
attribute [local irreducible] e9
theorem c4p {s:v9} (hst:c4R s) (hv:a3t s.heap) (hk:∀ o ∈ s.ops,o.kind≠12):SI False 0 {s with f45:=1} [] []∧SX {s with f45:=1}:=by
 obtain ⟨ops,e6,heap,rfl,hh,h20,hn,hd2,hd6,hdd⟩:=hst
 have hl:=hh.len
 obtain ⟨more,e, -, -⟩:=id hh
 have h10:10≤heap.length:=by rw [e,List.length_append];show 10≤10+_;omega
 refine ⟨⟨rfl,rfl,⟨hv.valid,⟨h10,by show heap.length≤60;omega⟩,hv.2.2,fun c hc=>a7Z.nC (hh.ok c hc)⟩,by show ops.length≤100;omega,fun h=>h.elim,hn,by show e6.length≤20;omega,fun h=>h.elim,by simp,rfl,by simp,by simp,by show (0:Int)≤0∧(0:Int)≤((0:Nat):Int);omega⟩,fun o ho h12=>absurd h12 (hk o ho)⟩
end Go.Ab.Td
namespace Go.Ab.Td
set_option maxRecDepth 100000
set_option maxRecDepth 100000
open Go Go.Ab
variable {P:Program}
set_option linter.unusedSimpArgs false
attribute [local irreducible] e9
def a5Q (p:Int × Wd):List PV:=c6t p.1 p.2
theorem c5a {qs:List PV} (h:b7n qs (.int .u8::a5b)):∃ p:Int × Wd,qs=a5Q p∧(0≤p.1∧p.1<256):=by
 obtain ⟨a,b,rfl,h1,h2⟩:=b7n.split (ts:=[.int .u8]) (r:=a5b) h
 obtain ⟨w,rfl⟩:=c6h h2
 match a,h1.1 with
 | [q],_=>
   have k:=h1.2 0 _ _ rfl rfl
   cases k with
   | int hw=>exact ⟨(_,w),rfl,c1a hw⟩
theorem b7D {p:PV} (h:b5P (false,[.sl (.int .u8::a5b)]) p):∃ l:List (Int × Wd),p= .sl 6 (l.map a5Q)∧∀ x ∈ l,0≤x.1∧x.1<256:=by
 obtain ⟨qs,e,hl,h⟩:=h
 simp only [b5Y] at e
 subst e
 have k:=h 0 _ _ rfl rfl
 cases k with
 | sl w g=>
   obtain ⟨l,rfl,q⟩:=c0v (fun qs h=>c5a h) _ w g
   exact ⟨l,rfl,q⟩
set_option maxHeartbeats 1000000 in
theorem b6J (C:Laid P) (l:List (Int × Wd)):j4 P G a4t [.sl 6 (l.map a5Q)] [] (.sl 6 ((l.take (60:Int).toNat).map a5Q)):=by
 refine i5 C (b7J C) rfl ?_
 repeat' ((conv=>whnf);first | (with_reducible refine sC (by kernel_rfl) ?_) | ((first | (with_reducible first | refine sB ?_ | refine o5 ?_ | refine o6 ?_) | refine sP (by rfl) ?_);first | refine oT ?_ | refine oF ?_ | (refine Or.inr (Or.inr ⟨fun hsp=>?_,fun hsp=>?_⟩) <;>(try simp only [nm] at hsp) <;>try subst hsp)) | refine sS (a7W (f:=a5Q) (by rfl) (by rfl) (by decide)) ?_ | fail)
 all_goals (conv=>whnf)
 all_goals (exact PV.le.refl _)
end Go.Ab.Td

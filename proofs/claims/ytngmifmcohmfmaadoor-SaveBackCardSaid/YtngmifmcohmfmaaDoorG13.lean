/- A part of the proof: the texts TdSa, TdSb. Under: nothing. -/
import Derived.Test.YtngmifmcohmfmaaDoorG12
import Derived.Test.YtngmifmcohmfmaaDoorG05
set_option linter.unusedVariables false
namespace Go.Ab.Td
set_option maxRecDepth 100000
set_option maxRecDepth 100000
open Go Go.Ab
variable {P:Program}
set_option linter.unusedSimpArgs false
attribute [local irreducible] e9
structure Sn where
 n:Int
 heap:List Cl
 st:Int
def w7 (x:Sn):List PV:=[.int .i64 x.n,.sl 7 (x.heap.map j8),.int .i64 x.st]
def n7 (cells:Int) (o:Ob):Prop:=o.comp∧cells≤o.ref
open Classical in
noncomputable def ixF (p:Ob→Prop):Nat→List Ob→Int
 | _,[]=> -1
 | i,x::l=>if p x then (i:Int) else ixF p (i+1) l
theorem c3m (p:Ob→Prop):∀ (l:List Ob) (i:Nat),(0≤ixF p i l)↔∃ o ∈ l,p o
 | [],i=>by simp [ixF]
 | x::l,i=>by
   unfold ixF
   by_cases h:p x
   ·rw [if_pos h];simp [h]
   ·rw [if_neg h,c3m p l (i+1)];simp [h]
def plF (n:Int):Nat→List Sn→Int
 | _,[]=> -1
 | i,x::l=>if x.n=n then (i:Int) else plF n (i+1) l
theorem c1A (C:Laid P):P7 P m7 u9=true:=by
 unfold P7
 rw [S8 C]
 kernel_rfl
def c9D (g:Nat):Option m8:=match Nat.beq g m7 with | true=>some u9 | false=>none
theorem c5h (C:Laid P) {g:Nat} {c:m8} {ps:List PV} {r:PV} (hk:b9 P g c=true) (hl:ps.length=c.nparams) (h:fnV G (j4 P G) noX noT c9D 1 c ps r):j4 P G g ps [] r:=
 a7S C.mixed hk (fun _ _ h=>by cases h) (fun _ _ h=>by cases h) (fun g c h=>by
  unfold c9D at h
  split at h
  ·rename_i hb
   have:=Nat.eq_of_beq_eq_true hb
   subst this
   cases h
   exact c1A C
  ·cases h) hl h
set_option maxHeartbeats 1000000 in
theorem b4T (C:Laid P) (o:Ob) (n:Int):j4 P G L6 [aO o,pI n] [] (.bool (tt (n7 n o))):=by
 refine i5 C (b0b C) rfl ?_
 repeat' ((conv=>whnf);first | (with_reducible refine sC (by kernel_rfl) ?_) | ((first | (with_reducible first | refine sB ?_ | refine o5 ?_ | refine o6 ?_) | refine sP (by rfl) ?_);first | refine oT ?_ | refine oF ?_ | (refine Or.inr (Or.inr ⟨fun hsp=>?_,fun hsp=>?_⟩) <;>(try simp only [nm] at hsp) <;>try subst hsp)) | fail)
 all_goals (conv=>whnf)
 all_goals (first | (with_reducible refine A0 ?_) | (with_reducible refine y3 ?_) | (refine A3 ?_;try simp (disch:=omega) only [nm,wrap_small])) <;>(grind [n7,Ob.comp])
theorem b2l (C:Laid P) (o_k:Int) (o_e:Bool) (o_n:Int) (o_s:List UInt8) (o_r:Int) (o_f:Int) (o_l:Int) (n:Int):j4 P G L6 [.agg [.int .i64 o_k,.bool o_e,.int .i64 o_n,.str o_s,.int .i64 o_r,.int .i64 o_f,.int .i64 o_l],pI n] [] (.bool (tt (n7 n (⟨o_k,o_e,o_n,o_s,o_r,o_f,o_l⟩:Ob)))):=b4T C (⟨o_k,o_e,o_n,o_s,o_r,o_f,o_l⟩:Ob) n
set_option maxHeartbeats 1000000 in
theorem b0n (C:Laid P) (o:Ob) (x:Sn):j4 P G n4 [aO o,.ref (w7 x)] [] (.bool (tt (n7 x.heap.length o))):=by
 refine i5 C (a0A C) rfl ?_
 repeat' ((conv=>whnf);first | (with_reducible refine sC (by kernel_rfl) ?_) | ((first | (with_reducible first | refine sB ?_ | refine o5 ?_ | refine o6 ?_) | refine sP (by rfl) ?_);first | refine oT ?_ | refine oF ?_ | (refine Or.inr (Or.inr ⟨fun hsp=>?_,fun hsp=>?_⟩) <;>(try simp only [nm,List.length_map] at hsp) <;>try subst hsp)) | refine ⟨_,_,b2l C o.kind o.exec o.n o.name o.ref o.off o.len _,?_⟩ | fail)
 all_goals (conv=>whnf)
 all_goals (first | exact PV.le.refl _ | (refine le_of_eq ?_;simp only [List.length_map]))
set_option maxHeartbeats 1000000 in
theorem a5F (C:Laid P) (l:List Ob) (sn:Sn) (hl:l.length<2 ^ 62):j4 P G B3 [.sl 7 (List.map i4 l),.func (.func n4) [] [.ref (w7 sn)]] [] (pI (ixF (n7 sn.heap.length) 0 l)):=by
 refine i5 C (a1c C) rfl ?_
 repeat' ((conv=>whnf);first | (with_reducible refine sC (by kernel_rfl) ?_) | ((first | (with_reducible first | refine sB ?_ | refine o5 ?_ | refine o6 ?_) | refine sP (by rfl) ?_);first | refine oT ?_ | refine oF ?_ | (refine Or.inr (Or.inr ⟨fun hsp=>?_,fun hsp=>?_⟩) <;>(try simp only [nm] at hsp) <;>try subst hsp)) | fail)
 all_goals (conv=>whnf)
 intro X hX hW
 refine a2s hX (fun st (a:Nat)=>st.upd [(8,.pv (pI (a:Int)))] []) (fun a m=>a+m=l.length∧(ixF (n7 sn.heap.length) 0 l=ixF (n7 sn.heap.length) a (l.drop a))) 0 l.length (by (conv=>whnf);first | done | rfl) (by simp) ?_
 intro m i ih hI
 rcases a0J l i with ⟨x,hlt,hx⟩ | hge
 ·have hrow:=y9 (f:=i4) hx
  have hd:=W1 hx
  have hI2:=hI.2
  rw [hd] at hI2
  simp only [ixF] at hI2
  repeat' ((conv=>whnf);first | (with_reducible refine sC (by kernel_rfl) ?_) | ((first | (with_reducible first | refine sB ?_ | refine o5 ?_ | refine o6 ?_) | refine sP (by rfl) ?_);first | refine oT ?_ | refine oF ?_ | (refine Or.inr (Or.inr ⟨fun hsp=>?_,fun hsp=>?_⟩) <;>(try simp only [nm,List.length_map] at hsp) <;>try subst hsp)) | refine ⟨_,_,b0n C x sn,?_⟩ | refine sS (e7 (by rfl) (by rfl) (by omega) hrow) ?_ | fail)
  all_goals (conv=>whnf)
  all_goals first
   | (refine ih (m - 1) (i+1) _ (by omega) ⟨by (try dsimp only);omega,?_⟩ (by (conv=>whnf);first | done | rfl | (simp (disch:=omega) only [A7])))
   | (with_reducible first | refine j9 ?_ | refine A0 ?_ | refine y3 ?_)
   | (refine A3 ?_;simp only [nm])
   | refine le_of_eq ?_
  all_goals grind
 ·have hd:l.drop i=[]:=List.drop_eq_nil_of_le hge
  have hI2:=hI.2
  rw [hd] at hI2
  simp only [ixF] at hI2
  repeat' ((conv=>whnf);first | (with_reducible refine sC (by kernel_rfl) ?_) | ((first | (with_reducible first | refine sB ?_ | refine o5 ?_ | refine o6 ?_) | refine sP (by rfl) ?_);first | refine oT ?_ | refine oF ?_ | (refine Or.inr (Or.inr ⟨fun hsp=>?_,fun hsp=>?_⟩) <;>(try simp only [nm,List.length_map] at hsp) <;>try subst hsp)) | refine ⟨_,_,b0n C x sn,?_⟩ | fail)
  all_goals (conv=>whnf)
  all_goals first
   | (with_reducible first | refine j9 ?_ | refine A0 ?_ | refine y3 ?_)
   | (refine A3 ?_;simp only [nm])
   | refine le_of_eq ?_
  all_goals grind
set_option maxHeartbeats 1000000 in
theorem a3T (C:Laid P) (l:List Ob) (x:Sn) (hl:l.length<2 ^ 62):j4 P G y5 [.sl 7 (List.map i4 l),.func (.func n4) [] [.ref (w7 x)]] [] (.bool (tt (∃ o ∈ l,n7 x.heap.length o))):=by
 refine i5 C (X4 C) rfl ?_
 repeat' ((conv=>whnf);first | (with_reducible refine sC (by kernel_rfl) ?_) | ((first | (with_reducible first | refine sB ?_ | refine o5 ?_ | refine o6 ?_) | refine sP (by rfl) ?_);first | refine oT ?_ | refine oF ?_ | (refine Or.inr (Or.inr ⟨fun hsp=>?_,fun hsp=>?_⟩) <;>(try simp only [nm] at hsp) <;>try subst hsp)) | refine ⟨_,_,a5F C l x hl,?_⟩ | fail)
 all_goals (conv=>whnf)
 all_goals (first | (with_reducible refine A0 ?_) | (with_reducible refine y3 ?_) | (refine A3 ?_;try simp (disch:=omega) only [nm,wrap_small])) <;>(exact c3m _ l 0)
set_option maxHeartbeats 1000000 in
theorem G8 (C:Laid P) (l:List Ob) (x:Sn) (hl:l.length<2 ^ 62):j4 P G J7 [.sl 7 (List.map i4 l),.func (.func n4) [] [.ref (w7 x)]] [] (.bool (tt (∃ o ∈ l,n7 x.heap.length o))):=by
 refine i5 C (a6M C) rfl ?_
 repeat' ((conv=>whnf);first | (with_reducible refine sC (by kernel_rfl) ?_) | ((first | (with_reducible first | refine sB ?_ | refine o5 ?_ | refine o6 ?_) | refine sP (by rfl) ?_);first | refine oT ?_ | refine oF ?_ | (refine Or.inr (Or.inr ⟨fun hsp=>?_,fun hsp=>?_⟩) <;>(try simp only [nm] at hsp) <;>try subst hsp)) | refine ⟨_,_,a3T C l x hl,?_⟩ | fail)
 all_goals (conv=>whnf)
 all_goals (exact PV.le.refl _)
end Go.Ab.Td
namespace Go.Ab.Td
set_option maxRecDepth 100000
set_option maxRecDepth 100000
open Go Go.Ab
variable {P:Program}
set_option linter.unusedSimpArgs false
attribute [local irreducible] e9
set_option maxHeartbeats 1000000 in
theorem a7B (C:Laid P) (s:v9):j4 P G F6 [aS s] [] (.func (.func m7) [] [.ref (c6S s)]):=by
 refine i5 C (a2J C) rfl ?_
 repeat' ((conv=>whnf);first | (with_reducible refine sC (by kernel_rfl) ?_) | ((first | (with_reducible first | refine sB ?_ | refine o5 ?_ | refine o6 ?_) | refine sP (by rfl) ?_);first | refine oT ?_ | refine oF ?_ | (refine Or.inr (Or.inr ⟨fun hsp=>?_,fun hsp=>?_⟩) <;>(try simp only [nm] at hsp) <;>try subst hsp)) | fail)
 all_goals (conv=>whnf)
 all_goals (exact PV.le.refl _)
set_option maxHeartbeats 4000000 in
theorem N0 (C:Laid P) (s:v9) (l:List Sn) (n:Int) (hq:s.f3=l.map w7) (hl:l.length≤1000000):j4 P G D2 [aS s,pI n] [] (pI (plF n 0 l)):=by
 refine c5h C (a3I C) rfl ?_
 have hlen:s.f3.length=l.length:=by rw [hq,List.length_map]
 repeat' ((conv=>whnf);first | (with_reducible refine sC (by kernel_rfl) ?_) | ((first | (with_reducible first | refine sB ?_ | refine o5 ?_ | refine o6 ?_) | refine sP (by rfl) ?_);first | refine Or.inl ⟨by first | assumption | (simp only [nm,hlen];first | done | assumption | omega),?_⟩ | refine Or.inr (Or.inl ⟨by first | assumption | (simp only [nm,hlen];first | done | assumption | omega),?_⟩) | (refine Or.inr (Or.inr ⟨fun hsp=>?_,fun hsp=>?_⟩) <;>(try simp only [nm,hlen] at hsp) <;>try subst hsp)) | refine ⟨_,_,a7B C s,?_⟩ | fail)
 all_goals (conv=>whnf)
 intro X hX hW
 refine c3q hX hW (fun st (i:Nat)=>st.upd [(9,.pv (pI (i:Int)))] []) (fun i k=>i+k=l.length∧plF n 0 l=plF n i (l.drop i)) 0 l.length (by (conv=>whnf);first | done | rfl) ⟨by simp,by simp⟩ ?_
 intro m i ih hI
 rcases a0J l i with ⟨x,hlt,hx⟩ | hge
 ·have hrow:s.f3[(i:Int).toNat]?=some (w7 x):=by rw [hq];exact y9 (f:=w7) hx
  have hd:=W1 hx
  have hI2:=hI.2
  rw [hd] at hI2
  simp only [plF] at hI2
  by_cases hn:x.n=n
  ·rw [if_pos hn] at hI2
   rw [hI2]
   repeat' ((conv=>whnf);first | (with_reducible refine sC (by kernel_rfl) ?_) | ((first | (with_reducible first | refine sB ?_ | refine o5 ?_ | refine o6 ?_) | refine sP (by rfl) ?_);first | refine Or.inl ⟨by first | assumption | (simp only [nm,hlen];first | done | assumption | omega),?_⟩ | refine Or.inr (Or.inl ⟨by first | assumption | (simp only [nm,hlen];first | done | assumption | omega),?_⟩) | (refine Or.inr (Or.inr ⟨fun hsp=>?_,fun hsp=>?_⟩) <;>(try simp only [nm,hlen] at hsp) <;>try subst hsp)) | refine sS (e7 (by rfl) (by rfl) (by omega) hrow) ?_ | fail)
   all_goals (conv=>whnf)
   all_goals exact PV.le.refl _
  ·rw [if_neg hn] at hI2
   repeat' ((conv=>whnf);first | (with_reducible refine sC (by kernel_rfl) ?_) | ((first | (with_reducible first | refine sB ?_ | refine o5 ?_ | refine o6 ?_) | refine sP (by rfl) ?_);first | refine Or.inl ⟨by first | assumption | (simp only [nm,hlen];first | done | assumption | omega),?_⟩ | refine Or.inr (Or.inl ⟨by first | assumption | (simp only [nm,hlen];first | done | assumption | omega),?_⟩) | (refine Or.inr (Or.inr ⟨fun hsp=>?_,fun hsp=>?_⟩) <;>(try simp only [nm,hlen] at hsp) <;>try subst hsp)) | refine sS (e7 (by rfl) (by rfl) (by omega) hrow) ?_ | fail)
   all_goals (conv=>whnf)
   all_goals (refine ih (m - 1) (i+1) _ (by omega) ⟨by (try dsimp only);omega,hI2⟩ (by (conv=>whnf);first | done | rfl | (simp (disch:=omega) only [A7])))
 ·have hd:l.drop i=[]:=List.drop_eq_nil_of_le hge
  have hI2:=hI.2
  rw [hd] at hI2
  simp only [plF] at hI2
  rw [hI2]
  repeat' ((conv=>whnf);first | (with_reducible refine sC (by kernel_rfl) ?_) | ((first | (with_reducible first | refine sB ?_ | refine o5 ?_ | refine o6 ?_) | refine sP (by rfl) ?_);first | refine Or.inl ⟨by first | assumption | (simp only [nm,hlen];first | done | assumption | omega),?_⟩ | refine Or.inr (Or.inl ⟨by first | assumption | (simp only [nm,hlen];first | done | assumption | omega),?_⟩) | (refine Or.inr (Or.inr ⟨fun hsp=>?_,fun hsp=>?_⟩) <;>(try simp only [nm,hlen] at hsp) <;>try subst hsp)) | fail)
  all_goals (conv=>whnf)
  all_goals exact PV.le.refl _
end Go.Ab.Td

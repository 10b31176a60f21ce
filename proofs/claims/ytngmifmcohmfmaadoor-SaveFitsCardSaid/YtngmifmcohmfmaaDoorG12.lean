/- A part of the proof: the texts TdSa, TdSb. Under: nothing. -/
import Derived.Test.YtngmifmcohmfmaaDoorG11
import Derived.Test.YtngmifmcohmfmaaDoorG05
set_option linter.unusedVariables false
namespace Go.Ab.Td
set_option maxRecDepth 100000
set_option maxRecDepth 100000
open Go Go.Ab
variable {P:Program}
set_option linter.unusedSimpArgs false
attribute [local irreducible] f0
structure Sn where
 n:Int
 heap:List Cl
 st:Int
def A1 (x:Sn):List PV:=[.int .i64 x.n,.sl 7 (x.heap.map j6),.int .i64 x.st]
def o3 (cells:Int) (o:Ob):Prop:=o.comp∧cells≤o.ref
open Classical in
noncomputable def ixF (p:Ob→Prop):Nat→List Ob→Int
 | _,[]=> -1
 | i,x::l=>if p x then (i:Int) else ixF p (i+1) l
theorem c2K (p:Ob→Prop):∀ (l:List Ob) (i:Nat),(0≤ixF p i l)↔∃ o ∈ l,p o
 | [],i=>by simp [ixF]
 | x::l,i=>by
   unfold ixF
   by_cases h:p x
   ·rw [if_pos h];simp [h]
   ·rw [if_neg h,c2K p l (i+1)];simp [h]
def plF (n:Int):Nat→List Sn→Int
 | _,[]=> -1
 | i,x::l=>if x.n=n then (i:Int) else plF n (i+1) l
theorem c0I (C:Laid P):N3 P n5 v3=true:=by
 unfold N3
 rw [S3 C]
 kernel_rfl
def c8X (g:Nat):Option n6:=match Nat.beq g n5 with | true=>some v3 | false=>none
theorem c4K (C:Laid P) {g:Nat} {c:n6} {ps:List PV} {r:PV} (hk:d8 P g c=true) (hl:ps.length=c.nparams) (h:fnV G (j5 P G) noX noT c8X 1 c ps r):j5 P G g ps [] r:=
 b0Q C.mixed hk (fun _ _ h=>by cases h) (fun _ _ h=>by cases h) (fun g c h=>by
  unfold c8X at h
  split at h
  ·rename_i hb
   have:=Nat.eq_of_beq_eq_true hb
   subst this
   cases h
   exact c0I C
  ·cases h) hl h
set_option maxHeartbeats 1000000 in
theorem b4I (C:Laid P) (o:Ob) (n:Int):j5 P G L0 [aO o,pI n] [] (.bool (tt (o3 n o))):=by
 refine i5 C (a9I C) rfl ?_
 repeat' ((conv=>whnf);first | (with_reducible refine sC (by kernel_rfl) ?_) | ((first | (with_reducible first | refine sB ?_ | refine p8 ?_ | refine p9 ?_) | refine sP (by rfl) ?_);first | refine oT ?_ | refine oF ?_ | (refine Or.inr (Or.inr ⟨fun hsp=>?_,fun hsp=>?_⟩) <;>(try simp only [nm] at hsp) <;>try subst hsp)) | fail)
 all_goals (conv=>whnf)
 all_goals (first | (with_reducible refine A3 ?_) | (with_reducible refine y5 ?_) | (refine A4 ?_;try simp (disch:=omega) only [nm,wrap_small])) <;>(grind [o3,Ob.comp])
theorem b1W (C:Laid P) (o_k:Int) (o_e:Bool) (o_n:Int) (o_s:List UInt8) (o_r:Int) (o_f:Int) (o_l:Int) (n:Int):j5 P G L0 [.agg [.int .i64 o_k,.bool o_e,.int .i64 o_n,.str o_s,.int .i64 o_r,.int .i64 o_f,.int .i64 o_l],pI n] [] (.bool (tt (o3 n (⟨o_k,o_e,o_n,o_s,o_r,o_f,o_l⟩:Ob)))):=b4I C (⟨o_k,o_e,o_n,o_s,o_r,o_f,o_l⟩:Ob) n
set_option maxHeartbeats 1000000 in
theorem a9W (C:Laid P) (o:Ob) (x:Sn):j5 P G n8 [aO o,.ref (A1 x)] [] (.bool (tt (o3 x.heap.length o))):=by
 refine i5 C (a0w C) rfl ?_
 repeat' ((conv=>whnf);first | (with_reducible refine sC (by kernel_rfl) ?_) | ((first | (with_reducible first | refine sB ?_ | refine p8 ?_ | refine p9 ?_) | refine sP (by rfl) ?_);first | refine oT ?_ | refine oF ?_ | (refine Or.inr (Or.inr ⟨fun hsp=>?_,fun hsp=>?_⟩) <;>(try simp only [nm,List.length_map] at hsp) <;>try subst hsp)) | refine ⟨_,_,b1W C o.kind o.exec o.n o.name o.ref o.off o.len _,?_⟩ | fail)
 all_goals (conv=>whnf)
 all_goals (first | exact PV.le.refl _ | (refine le_of_eq ?_;simp only [List.length_map]))
set_option maxHeartbeats 1000000 in
theorem a5r (C:Laid P) (l:List Ob) (sn:Sn) (hl:l.length<2 ^ 62):j5 P G B3 [.sl 7 (List.map g8 l),.func (.func n8) [] [.ref (A1 sn)]] [] (pI (ixF (o3 sn.heap.length) 0 l)):=by
 refine i5 C (a0Y C) rfl ?_
 repeat' ((conv=>whnf);first | (with_reducible refine sC (by kernel_rfl) ?_) | ((first | (with_reducible first | refine sB ?_ | refine p8 ?_ | refine p9 ?_) | refine sP (by rfl) ?_);first | refine oT ?_ | refine oF ?_ | (refine Or.inr (Or.inr ⟨fun hsp=>?_,fun hsp=>?_⟩) <;>(try simp only [nm] at hsp) <;>try subst hsp)) | fail)
 all_goals (conv=>whnf)
 intro X hX hW
 refine a2p hX (fun st (a:Nat)=>st.upd [(8,.pv (pI (a:Int)))] []) (fun a m=>a+m=l.length∧(ixF (o3 sn.heap.length) 0 l=ixF (o3 sn.heap.length) a (l.drop a))) 0 l.length (by (conv=>whnf);first | done | rfl) (by simp) ?_
 intro m i ih hI
 rcases a0t l i with ⟨x,hlt,hx⟩ | hge
 ·have hrow:=y3 (f:=g8) hx
  have hd:=Z8 hx
  have hI2:=hI.2
  rw [hd] at hI2
  simp only [ixF] at hI2
  repeat' ((conv=>whnf);first | (with_reducible refine sC (by kernel_rfl) ?_) | ((first | (with_reducible first | refine sB ?_ | refine p8 ?_ | refine p9 ?_) | refine sP (by rfl) ?_);first | refine oT ?_ | refine oF ?_ | (refine Or.inr (Or.inr ⟨fun hsp=>?_,fun hsp=>?_⟩) <;>(try simp only [nm,List.length_map] at hsp) <;>try subst hsp)) | refine ⟨_,_,a9W C x sn,?_⟩ | refine sS (e7 (by rfl) (by rfl) (by omega) hrow) ?_ | fail)
  all_goals (conv=>whnf)
  all_goals first
   | (refine ih (m - 1) (i+1) _ (by omega) ⟨by (try dsimp only);omega,?_⟩ (by (conv=>whnf);first | done | rfl | (simp (disch:=omega) only [A0])))
   | (with_reducible first | refine l0 ?_ | refine A3 ?_ | refine y5 ?_)
   | (refine A4 ?_;simp only [nm])
   | refine le_of_eq ?_
  all_goals grind
 ·have hd:l.drop i=[]:=List.drop_eq_nil_of_le hge
  have hI2:=hI.2
  rw [hd] at hI2
  simp only [ixF] at hI2
  repeat' ((conv=>whnf);first | (with_reducible refine sC (by kernel_rfl) ?_) | ((first | (with_reducible first | refine sB ?_ | refine p8 ?_ | refine p9 ?_) | refine sP (by rfl) ?_);first | refine oT ?_ | refine oF ?_ | (refine Or.inr (Or.inr ⟨fun hsp=>?_,fun hsp=>?_⟩) <;>(try simp only [nm,List.length_map] at hsp) <;>try subst hsp)) | refine ⟨_,_,a9W C x sn,?_⟩ | fail)
  all_goals (conv=>whnf)
  all_goals first
   | (with_reducible first | refine l0 ?_ | refine A3 ?_ | refine y5 ?_)
   | (refine A4 ?_;simp only [nm])
   | refine le_of_eq ?_
  all_goals grind
set_option maxHeartbeats 1000000 in
theorem a3M (C:Laid P) (l:List Ob) (x:Sn) (hl:l.length<2 ^ 62):j5 P G y7 [.sl 7 (List.map g8 l),.func (.func n8) [] [.ref (A1 x)]] [] (.bool (tt (∃ o ∈ l,o3 x.heap.length o))):=by
 refine i5 C (W8 C) rfl ?_
 repeat' ((conv=>whnf);first | (with_reducible refine sC (by kernel_rfl) ?_) | ((first | (with_reducible first | refine sB ?_ | refine p8 ?_ | refine p9 ?_) | refine sP (by rfl) ?_);first | refine oT ?_ | refine oF ?_ | (refine Or.inr (Or.inr ⟨fun hsp=>?_,fun hsp=>?_⟩) <;>(try simp only [nm] at hsp) <;>try subst hsp)) | refine ⟨_,_,a5r C l x hl,?_⟩ | fail)
 all_goals (conv=>whnf)
 all_goals (first | (with_reducible refine A3 ?_) | (with_reducible refine y5 ?_) | (refine A4 ?_;try simp (disch:=omega) only [nm,wrap_small])) <;>(exact c2K _ l 0)
set_option maxHeartbeats 1000000 in
theorem G3 (C:Laid P) (l:List Ob) (x:Sn) (hl:l.length<2 ^ 62):j5 P G J3 [.sl 7 (List.map g8 l),.func (.func n8) [] [.ref (A1 x)]] [] (.bool (tt (∃ o ∈ l,o3 x.heap.length o))):=by
 refine i5 C (a6v C) rfl ?_
 repeat' ((conv=>whnf);first | (with_reducible refine sC (by kernel_rfl) ?_) | ((first | (with_reducible first | refine sB ?_ | refine p8 ?_ | refine p9 ?_) | refine sP (by rfl) ?_);first | refine oT ?_ | refine oF ?_ | (refine Or.inr (Or.inr ⟨fun hsp=>?_,fun hsp=>?_⟩) <;>(try simp only [nm] at hsp) <;>try subst hsp)) | refine ⟨_,_,a3M C l x hl,?_⟩ | fail)
 all_goals (conv=>whnf)
 all_goals (exact PV.le.refl _)
end Go.Ab.Td
namespace Go.Ab.Td
set_option maxRecDepth 100000
set_option maxRecDepth 100000
open Go Go.Ab
variable {P:Program}
set_option linter.unusedSimpArgs false
attribute [local irreducible] f0
set_option maxHeartbeats 1000000 in
theorem a7l (C:Laid P) (s:x6):j5 P G F3 [aS s] [] (.func (.func n5) [] [.ref (c6x s)]):=by
 refine i5 C (a2I C) rfl ?_
 repeat' ((conv=>whnf);first | (with_reducible refine sC (by kernel_rfl) ?_) | ((first | (with_reducible first | refine sB ?_ | refine p8 ?_ | refine p9 ?_) | refine sP (by rfl) ?_);first | refine oT ?_ | refine oF ?_ | (refine Or.inr (Or.inr ⟨fun hsp=>?_,fun hsp=>?_⟩) <;>(try simp only [nm] at hsp) <;>try subst hsp)) | fail)
 all_goals (conv=>whnf)
 all_goals (exact PV.le.refl _)
set_option maxHeartbeats 4000000 in
theorem M5 (C:Laid P) (s:x6) (l:List Sn) (n:Int) (hq:s.f3=l.map A1) (hl:l.length≤1000000):j5 P G C8 [aS s,pI n] [] (pI (plF n 0 l)):=by
 refine c4K C (a3F C) rfl ?_
 have hlen:s.f3.length=l.length:=by rw [hq,List.length_map]
 repeat' ((conv=>whnf);first | (with_reducible refine sC (by kernel_rfl) ?_) | ((first | (with_reducible first | refine sB ?_ | refine p8 ?_ | refine p9 ?_) | refine sP (by rfl) ?_);first | refine Or.inl ⟨by first | assumption | (simp only [nm,hlen];first | done | assumption | omega),?_⟩ | refine Or.inr (Or.inl ⟨by first | assumption | (simp only [nm,hlen];first | done | assumption | omega),?_⟩) | (refine Or.inr (Or.inr ⟨fun hsp=>?_,fun hsp=>?_⟩) <;>(try simp only [nm,hlen] at hsp) <;>try subst hsp)) | refine ⟨_,_,a7l C s,?_⟩ | fail)
 all_goals (conv=>whnf)
 intro X hX hW
 refine c2Q hX hW (fun st (i:Nat)=>st.upd [(9,.pv (pI (i:Int)))] []) (fun i k=>i+k=l.length∧plF n 0 l=plF n i (l.drop i)) 0 l.length (by (conv=>whnf);first | done | rfl) ⟨by simp,by simp⟩ ?_
 intro m i ih hI
 rcases a0t l i with ⟨x,hlt,hx⟩ | hge
 ·have hrow:s.f3[(i:Int).toNat]?=some (A1 x):=by rw [hq];exact y3 (f:=A1) hx
  have hd:=Z8 hx
  have hI2:=hI.2
  rw [hd] at hI2
  simp only [plF] at hI2
  by_cases hn:x.n=n
  ·rw [if_pos hn] at hI2
   rw [hI2]
   repeat' ((conv=>whnf);first | (with_reducible refine sC (by kernel_rfl) ?_) | ((first | (with_reducible first | refine sB ?_ | refine p8 ?_ | refine p9 ?_) | refine sP (by rfl) ?_);first | refine Or.inl ⟨by first | assumption | (simp only [nm,hlen];first | done | assumption | omega),?_⟩ | refine Or.inr (Or.inl ⟨by first | assumption | (simp only [nm,hlen];first | done | assumption | omega),?_⟩) | (refine Or.inr (Or.inr ⟨fun hsp=>?_,fun hsp=>?_⟩) <;>(try simp only [nm,hlen] at hsp) <;>try subst hsp)) | refine sS (e7 (by rfl) (by rfl) (by omega) hrow) ?_ | fail)
   all_goals (conv=>whnf)
   all_goals exact PV.le.refl _
  ·rw [if_neg hn] at hI2
   repeat' ((conv=>whnf);first | (with_reducible refine sC (by kernel_rfl) ?_) | ((first | (with_reducible first | refine sB ?_ | refine p8 ?_ | refine p9 ?_) | refine sP (by rfl) ?_);first | refine Or.inl ⟨by first | assumption | (simp only [nm,hlen];first | done | assumption | omega),?_⟩ | refine Or.inr (Or.inl ⟨by first | assumption | (simp only [nm,hlen];first | done | assumption | omega),?_⟩) | (refine Or.inr (Or.inr ⟨fun hsp=>?_,fun hsp=>?_⟩) <;>(try simp only [nm,hlen] at hsp) <;>try subst hsp)) | refine sS (e7 (by rfl) (by rfl) (by omega) hrow) ?_ | fail)
   all_goals (conv=>whnf)
   all_goals (refine ih (m - 1) (i+1) _ (by omega) ⟨by (try dsimp only);omega,hI2⟩ (by (conv=>whnf);first | done | rfl | (simp (disch:=omega) only [A0])))
 ·have hd:l.drop i=[]:=List.drop_eq_nil_of_le hge
  have hI2:=hI.2
  rw [hd] at hI2
  simp only [plF] at hI2
  rw [hI2]
  repeat' ((conv=>whnf);first | (with_reducible refine sC (by kernel_rfl) ?_) | ((first | (with_reducible first | refine sB ?_ | refine p8 ?_ | refine p9 ?_) | refine sP (by rfl) ?_);first | refine Or.inl ⟨by first | assumption | (simp only [nm,hlen];first | done | assumption | omega),?_⟩ | refine Or.inr (Or.inl ⟨by first | assumption | (simp only [nm,hlen];first | done | assumption | omega),?_⟩) | (refine Or.inr (Or.inr ⟨fun hsp=>?_,fun hsp=>?_⟩) <;>(try simp only [nm,hlen] at hsp) <;>try subst hsp)) | fail)
  all_goals (conv=>whnf)
  all_goals exact PV.le.refl _
end Go.Ab.Td

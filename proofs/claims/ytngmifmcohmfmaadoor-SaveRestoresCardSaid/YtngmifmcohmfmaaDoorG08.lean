/- A part of the proof: the texts TdSa, TdSb, TdSc, TdSd. Under: nothing. -/
import Derived.Test.YtngmifmcohmfmaaDoorG07
import Derived.Test.YtngmifmcohmfmaaDoorG05
set_option linter.unusedVariables false
namespace Go.Ab.Td
set_option maxRecDepth 100000
set_option maxRecDepth 100000
open Go Go.Ab
variable {P:Program}
set_option linter.unusedSimpArgs false
attribute [local irreducible] d8
structure Sn where
 n:Int
 heap:List Cl
 st:Int
def u1 (x:Sn):List PV:=[.int .i64 x.n,.sl 7 (x.heap.map k9),.int .i64 x.st]
def n7 (cells:Int) (o:Ob):Prop:=o.comp∧cells≤o.ref
open Classical in
noncomputable def ixF (p:Ob→Prop):Nat→List Ob→Int
 | _,[]=> -1
 | i,x::l=>if p x then (i:Int) else ixF p (i+1) l
theorem c1E (p:Ob→Prop):∀ (l:List Ob) (i:Nat),(0≤ixF p i l)↔∃ o ∈ l,p o
 | [],i=>by simp [ixF]
 | x::l,i=>by
   unfold ixF
   by_cases h:p x
   ·rw [if_pos h];simp [h]
   ·rw [if_neg h,c1E p l (i+1)];simp [h]
def plF (n:Int):Nat→List Sn→Int
 | _,[]=> -1
 | i,x::l=>if x.n=n then (i:Int) else plF n (i+1) l
theorem b9U (C:Laid P):Q1 P l5 p9=true:=by
 unfold Q1
 rw [Q3 C]
 kernel_rfl
def c7B (g:Nat):Option m0:=match Nat.beq g l5 with | true=>some p9 | false=>none
theorem c3u (C:Laid P) {g:Nat} {c:m0} {ps:List PV} {r:PV} (hk:b9 P g c=true) (hl:ps.length=c.nparams) (h:fnV G (j6 P G) noX noT c7B 1 c ps r):j6 P G g ps [] r:=
 b4h C.mixed hk (fun _ _ h=>by cases h) (fun _ _ h=>by cases h) (fun g c h=>by
  unfold c7B at h
  split at h
  ·rename_i hb
   have:=Nat.eq_of_beq_eq_true hb
   subst this
   cases h
   exact b9U C
  ·cases h) hl h
set_option maxHeartbeats 1000000 in
theorem b3D (C:Laid P) (o:Ob) (n:Int):j6 P G J4 [aO o,pI n] [] (.bool (tt (n7 n o))):=by
 refine i7 C (a8Y C) rfl ?_
 repeat' ((conv=>whnf);first | (with_reducible refine sC (by kernel_rfl) ?_) | ((first | (with_reducible first | refine sB ?_ | refine x8 ?_ | refine x9 ?_) | refine sP (by rfl) ?_);first | refine oT ?_ | refine oF ?_ | (refine Or.inr (Or.inr ⟨fun hsp=>?_,fun hsp=>?_⟩) <;>(try simp only [nm] at hsp) <;>try subst hsp)) | fail)
 all_goals (conv=>whnf)
 all_goals (first | (with_reducible refine E2 ?_) | (with_reducible refine C7 ?_) | (refine E7 ?_;try simp (disch:=omega) only [nm,wrap_small])) <;>(grind [n7,Ob.comp])
theorem b0Z (C:Laid P) (o_k:Int) (o_e:Bool) (o_n:Int) (o_s:List UInt8) (o_r:Int) (o_f:Int) (o_l:Int) (n:Int):j6 P G J4 [.agg [.int .i64 o_k,.bool o_e,.int .i64 o_n,.str o_s,.int .i64 o_r,.int .i64 o_f,.int .i64 o_l],pI n] [] (.bool (tt (n7 n (⟨o_k,o_e,o_n,o_s,o_r,o_f,o_l⟩:Ob)))):=b3D C (⟨o_k,o_e,o_n,o_s,o_r,o_f,o_l⟩:Ob) n
set_option maxHeartbeats 1000000 in
theorem a9h (C:Laid P) (o:Ob) (x:Sn):j6 P G l6 [aO o,.ref (u1 x)] [] (.bool (tt (n7 x.heap.length o))):=by
 refine i7 C (a0d C) rfl ?_
 repeat' ((conv=>whnf);first | (with_reducible refine sC (by kernel_rfl) ?_) | ((first | (with_reducible first | refine sB ?_ | refine x8 ?_ | refine x9 ?_) | refine sP (by rfl) ?_);first | refine oT ?_ | refine oF ?_ | (refine Or.inr (Or.inr ⟨fun hsp=>?_,fun hsp=>?_⟩) <;>(try simp only [nm,List.length_map] at hsp) <;>try subst hsp)) | refine ⟨_,_,b0Z C o.kind o.exec o.n o.name o.ref o.off o.len _,?_⟩ | fail)
 all_goals (conv=>whnf)
 all_goals (first | exact PV.le.refl _ | (refine le_of_eq ?_;simp only [List.length_map]))
set_option maxHeartbeats 1000000 in
theorem a4M (C:Laid P) (l:List Ob) (sn:Sn) (hl:l.length<2 ^ 62):j6 P G y7 [.sl 7 (List.map g9 l),.func (.func l6) [] [.ref (u1 sn)]] [] (pI (ixF (n7 sn.heap.length) 0 l)):=by
 refine i7 C (a0C C) rfl ?_
 repeat' ((conv=>whnf);first | (with_reducible refine sC (by kernel_rfl) ?_) | ((first | (with_reducible first | refine sB ?_ | refine x8 ?_ | refine x9 ?_) | refine sP (by rfl) ?_);first | refine oT ?_ | refine oF ?_ | (refine Or.inr (Or.inr ⟨fun hsp=>?_,fun hsp=>?_⟩) <;>(try simp only [nm] at hsp) <;>try subst hsp)) | fail)
 all_goals (conv=>whnf)
 intro X hX hW
 refine a3K hX (fun st (a:Nat)=>st.upd [(8,.pv (pI (a:Int)))] []) (fun a m=>a+m=l.length∧(ixF (n7 sn.heap.length) 0 l=ixF (n7 sn.heap.length) a (l.drop a))) 0 l.length (by (conv=>whnf);first | done | rfl) (by simp) ?_
 intro m i ih hI
 rcases a2T l i with ⟨x,hlt,hx⟩ | hge
 ·have hrow:=C0 (f:=g9) hx
  have hd:=a0w hx
  have hI2:=hI.2
  rw [hd] at hI2
  simp only [ixF] at hI2
  repeat' ((conv=>whnf);first | (with_reducible refine sC (by kernel_rfl) ?_) | ((first | (with_reducible first | refine sB ?_ | refine x8 ?_ | refine x9 ?_) | refine sP (by rfl) ?_);first | refine oT ?_ | refine oF ?_ | (refine Or.inr (Or.inr ⟨fun hsp=>?_,fun hsp=>?_⟩) <;>(try simp only [nm,List.length_map] at hsp) <;>try subst hsp)) | refine ⟨_,_,a9h C x sn,?_⟩ | refine sS (e8 (by rfl) (by rfl) (by omega) hrow) ?_ | fail)
  all_goals (conv=>whnf)
  all_goals first
   | (refine ih (m - 1) (i+1) _ (by omega) ⟨by (try dsimp only);omega,?_⟩ (by (conv=>whnf);first | done | rfl | (simp (disch:=omega) only [z6])))
   | (with_reducible first | refine l8 ?_ | refine E2 ?_ | refine C7 ?_)
   | (refine E7 ?_;simp only [nm])
   | refine le_of_eq ?_
  all_goals grind
 ·have hd:l.drop i=[]:=List.drop_eq_nil_of_le hge
  have hI2:=hI.2
  rw [hd] at hI2
  simp only [ixF] at hI2
  repeat' ((conv=>whnf);first | (with_reducible refine sC (by kernel_rfl) ?_) | ((first | (with_reducible first | refine sB ?_ | refine x8 ?_ | refine x9 ?_) | refine sP (by rfl) ?_);first | refine oT ?_ | refine oF ?_ | (refine Or.inr (Or.inr ⟨fun hsp=>?_,fun hsp=>?_⟩) <;>(try simp only [nm,List.length_map] at hsp) <;>try subst hsp)) | refine ⟨_,_,a9h C x sn,?_⟩ | fail)
  all_goals (conv=>whnf)
  all_goals first
   | (with_reducible first | refine l8 ?_ | refine E2 ?_ | refine C7 ?_)
   | (refine E7 ?_;simp only [nm])
   | refine le_of_eq ?_
  all_goals grind
set_option maxHeartbeats 1000000 in
theorem a3j (C:Laid P) (l:List Ob) (x:Sn) (hl:l.length<2 ^ 62):j6 P G v8 [.sl 7 (List.map g9 l),.func (.func l6) [] [.ref (u1 x)]] [] (.bool (tt (∃ o ∈ l,n7 x.heap.length o))):=by
 refine i7 C (V2 C) rfl ?_
 repeat' ((conv=>whnf);first | (with_reducible refine sC (by kernel_rfl) ?_) | ((first | (with_reducible first | refine sB ?_ | refine x8 ?_ | refine x9 ?_) | refine sP (by rfl) ?_);first | refine oT ?_ | refine oF ?_ | (refine Or.inr (Or.inr ⟨fun hsp=>?_,fun hsp=>?_⟩) <;>(try simp only [nm] at hsp) <;>try subst hsp)) | refine ⟨_,_,a4M C l x hl,?_⟩ | fail)
 all_goals (conv=>whnf)
 all_goals (first | (with_reducible refine E2 ?_) | (with_reducible refine C7 ?_) | (refine E7 ?_;try simp (disch:=omega) only [nm,wrap_small])) <;>(exact c1E _ l 0)
set_option maxHeartbeats 1000000 in
theorem F1 (C:Laid P) (l:List Ob) (x:Sn) (hl:l.length<2 ^ 62):j6 P G H5 [.sl 7 (List.map g9 l),.func (.func l6) [] [.ref (u1 x)]] [] (.bool (tt (∃ o ∈ l,n7 x.heap.length o))):=by
 refine i7 C (a5I C) rfl ?_
 repeat' ((conv=>whnf);first | (with_reducible refine sC (by kernel_rfl) ?_) | ((first | (with_reducible first | refine sB ?_ | refine x8 ?_ | refine x9 ?_) | refine sP (by rfl) ?_);first | refine oT ?_ | refine oF ?_ | (refine Or.inr (Or.inr ⟨fun hsp=>?_,fun hsp=>?_⟩) <;>(try simp only [nm] at hsp) <;>try subst hsp)) | refine ⟨_,_,a3j C l x hl,?_⟩ | fail)
 all_goals (conv=>whnf)
 all_goals (exact PV.le.refl _)
end Go.Ab.Td
namespace Go.Ab.Td
set_option maxRecDepth 100000
set_option maxRecDepth 100000
open Go Go.Ab
variable {P:Program}
set_option linter.unusedSimpArgs false
attribute [local irreducible] d8
set_option maxHeartbeats 1000000 in
theorem a6A (C:Laid P) (s:B4):j6 P G D9 [aS s] [] (.func (.func l5) [] [.ref (c3j s)]):=by
 refine i7 C (a2j C) rfl ?_
 repeat' ((conv=>whnf);first | (with_reducible refine sC (by kernel_rfl) ?_) | ((first | (with_reducible first | refine sB ?_ | refine x8 ?_ | refine x9 ?_) | refine sP (by rfl) ?_);first | refine oT ?_ | refine oF ?_ | (refine Or.inr (Or.inr ⟨fun hsp=>?_,fun hsp=>?_⟩) <;>(try simp only [nm] at hsp) <;>try subst hsp)) | fail)
 all_goals (conv=>whnf)
 all_goals (exact PV.le.refl _)
set_option maxHeartbeats 4000000 in
theorem y9 (C:Laid P) (s:B4) (l:List Sn) (n:Int) (hq:s.f3=l.map u1) (hl:l.length≤1000000):j6 P G B1 [aS s,pI n] [] (pI (plF n 0 l)):=by
 refine c3u C (a3c C) rfl ?_
 have hlen:s.f3.length=l.length:=by rw [hq,List.length_map]
 repeat' ((conv=>whnf);first | (with_reducible refine sC (by kernel_rfl) ?_) | ((first | (with_reducible first | refine sB ?_ | refine x8 ?_ | refine x9 ?_) | refine sP (by rfl) ?_);first | refine Or.inl ⟨by first | assumption | (simp only [nm,hlen];first | done | assumption | omega),?_⟩ | refine Or.inr (Or.inl ⟨by first | assumption | (simp only [nm,hlen];first | done | assumption | omega),?_⟩) | (refine Or.inr (Or.inr ⟨fun hsp=>?_,fun hsp=>?_⟩) <;>(try simp only [nm,hlen] at hsp) <;>try subst hsp)) | refine ⟨_,_,a6A C s,?_⟩ | fail)
 all_goals (conv=>whnf)
 intro X hX hW
 refine c7p hX hW (fun st (i:Nat)=>st.upd [(9,.pv (pI (i:Int)))] []) (fun i k=>i+k=l.length∧plF n 0 l=plF n i (l.drop i)) 0 l.length (by (conv=>whnf);first | done | rfl) ⟨by simp,by simp⟩ ?_
 intro m i ih hI
 rcases a2T l i with ⟨x,hlt,hx⟩ | hge
 ·have hrow:s.f3[(i:Int).toNat]?=some (u1 x):=by rw [hq];exact C0 (f:=u1) hx
  have hd:=a0w hx
  have hI2:=hI.2
  rw [hd] at hI2
  simp only [plF] at hI2
  by_cases hn:x.n=n
  ·rw [if_pos hn] at hI2
   rw [hI2]
   repeat' ((conv=>whnf);first | (with_reducible refine sC (by kernel_rfl) ?_) | ((first | (with_reducible first | refine sB ?_ | refine x8 ?_ | refine x9 ?_) | refine sP (by rfl) ?_);first | refine Or.inl ⟨by first | assumption | (simp only [nm,hlen];first | done | assumption | omega),?_⟩ | refine Or.inr (Or.inl ⟨by first | assumption | (simp only [nm,hlen];first | done | assumption | omega),?_⟩) | (refine Or.inr (Or.inr ⟨fun hsp=>?_,fun hsp=>?_⟩) <;>(try simp only [nm,hlen] at hsp) <;>try subst hsp)) | refine sS (e8 (by rfl) (by rfl) (by omega) hrow) ?_ | fail)
   all_goals (conv=>whnf)
   all_goals exact PV.le.refl _
  ·rw [if_neg hn] at hI2
   repeat' ((conv=>whnf);first | (with_reducible refine sC (by kernel_rfl) ?_) | ((first | (with_reducible first | refine sB ?_ | refine x8 ?_ | refine x9 ?_) | refine sP (by rfl) ?_);first | refine Or.inl ⟨by first | assumption | (simp only [nm,hlen];first | done | assumption | omega),?_⟩ | refine Or.inr (Or.inl ⟨by first | assumption | (simp only [nm,hlen];first | done | assumption | omega),?_⟩) | (refine Or.inr (Or.inr ⟨fun hsp=>?_,fun hsp=>?_⟩) <;>(try simp only [nm,hlen] at hsp) <;>try subst hsp)) | refine sS (e8 (by rfl) (by rfl) (by omega) hrow) ?_ | fail)
   all_goals (conv=>whnf)
   all_goals (refine ih (m - 1) (i+1) _ (by omega) ⟨by (try dsimp only);omega,hI2⟩ (by (conv=>whnf);first | done | rfl | (simp (disch:=omega) only [z6])))
 ·have hd:l.drop i=[]:=List.drop_eq_nil_of_le hge
  have hI2:=hI.2
  rw [hd] at hI2
  simp only [plF] at hI2
  rw [hI2]
  repeat' ((conv=>whnf);first | (with_reducible refine sC (by kernel_rfl) ?_) | ((first | (with_reducible first | refine sB ?_ | refine x8 ?_ | refine x9 ?_) | refine sP (by rfl) ?_);first | refine Or.inl ⟨by first | assumption | (simp only [nm,hlen];first | done | assumption | omega),?_⟩ | refine Or.inr (Or.inl ⟨by first | assumption | (simp only [nm,hlen];first | done | assumption | omega),?_⟩) | (refine Or.inr (Or.inr ⟨fun hsp=>?_,fun hsp=>?_⟩) <;>(try simp only [nm,hlen] at hsp) <;>try subst hsp)) | fail)
  all_goals (conv=>whnf)
  all_goals exact PV.le.refl _
end Go.Ab.Td
namespace Go.Ab.Td
set_option maxRecDepth 100000
set_option maxRecDepth 100000
open Go Go.Ab
variable {P:Program}
set_option linter.unusedSimpArgs false
attribute [local irreducible] d8
def grO (s:B4):List PV:=[.int .i64 s.f5,.int .i64 s.f6,.int .i64 s.f7,.int .i64 s.f8,.int .i64 s.f9,.int .i64 s.f10,.sl 7 s.f11,.int .i64 s.f12,.int .i64 s.f13,.int .i64 s.f14,.int .i64 s.f15,.int .i64 s.f16,.int .i64 s.f17,.int .i64 s.f18,.int .i64 s.f19,.int .i64 s.f20,.int .i64 s.f21,.int .i64 s.f22,.int .i64 s.f23,.int .i64 s.f24,.int .i64 s.f25,.int .i64 s.f26,.int .i64 s.f27,.int .i64 s.f28,.int .i64 s.f29,.int .i64 s.f30,.int .i64 s.f31,.bool s.f32,.bool s.f33,.sl 47 s.f34,.int .i64 s.f35,.int .i64 s.f36,.int .i64 s.f37,.int .i64 s.f38,.int .i64 s.f39,.int .i64 s.f40,.int .i64 s.f41,.int .i64 s.f42,.sl 1 s.f43,.int .i64 s.f44,.int .i64 s.f45,.sl 2 s.f46,.int .i64 s.f47,.bool s.f48,.int .i64 s.f49,.str s.f50,.int .i64 s.f51,.int .i64 s.f52,.int .i64 s.f53,.int .i64 s.f54,.int .i64 s.f55,.int .i64 s.f56,.int .i64 s.f57,.int .i64 s.f58,.int .i64 s.f59,.int .i64 s.f60,.int .i64 s.f61]
def svO (n:Int):Ob:=⟨12,false,n,[],0,0,0⟩
def svS (s:B4):B4:={s with ops:=s.ops++[svO (IntKind.i64.wrap (s.f4+1))],f4:=IntKind.i64.wrap (s.f4+1),f3:=s.f3++[[.int .i64 (IntKind.i64.wrap (s.f4+1)),.sl 7 (s.heap.map k9),.int .i64 (s.f62.length:Int)]],f62:=s.f62++[grO s]}
set_option maxHeartbeats 8000000 in
theorem a7h (C:Laid P) (s:B4) (h3:s.f3.length<10) (h62:s.f62.length<20) (ho:s.ops.length<100):j6 P G u4 [aS s] [] (.v9 [aS (svS s),pI 0]):=by
 refine i7 C (N4 C) rfl ?_
 repeat' ((conv=>whnf);first | (with_reducible refine sC (by kernel_rfl) ?_) | ((first | (with_reducible first | refine sB ?_ | refine x8 ?_ | refine x9 ?_) | refine sP (by rfl) ?_);first | refine oT ?_ | refine oF ?_ | (refine Or.inr (Or.inr ⟨fun hsp=>?_,fun hsp=>?_⟩) <;>(try simp only [nm,List.length_map] at hsp) <;>try subst hsp)) | refine ⟨_,_,b1a C _ _ _ _ _ _ _ _ _ _ _ _ _ _ _ _ _ _ _ _ _ _ _ _ _ _ _ _ _ _ _ _ _ _ _ _ _ _ _ _ _ _ _ _ _ _ _ _ _ _ _ _ _ _ _ _ _ _ _ _ _ _ _ _ _ _ _ [⟨_,_,_,_,_,_,_⟩] (by simp;omega),?_⟩ | refine sS (a9u (rows:=s.f3) (by rfl) (by rfl) (by rfl) (by rfl) (by omega) (by omega) (by rfl) (by simp)) ?_ | refine sS (b1F (rows:=(s.f3.take (s.f3.length:Int).toNat).drop (0:Int).toNat) (by rfl) (by first | exact e9 | exact d6 | exact d7 (by rfl) (by rfl)) (by (try simp only [ln]);omega)) ?_ | refine sS (a9u (rows:=s.f62) (by rfl) (by rfl) (by rfl) (by rfl) (by omega) (by omega) (by rfl) (by simp)) ?_ | refine sS (b1F (rows:=(s.f62.take (s.f62.length:Int).toNat).drop (0:Int).toNat) (by rfl) (by first | exact e9 | exact d6 | exact d7 (by rfl) (by rfl)) (by (try simp only [ln]);omega)) ?_ | fail)
 all_goals (conv=>whnf)
 all_goals ((repeat' (first | (with_reducible exact PV.le.refl _) | exact PV.le.emp _ | exact K3.nil | (with_reducible refine x6 ?_) | (with_reducible refine s7 ?_) | (refine K3.cons ?_ ?_) | (with_reducible refine l8 ?_) | (with_reducible refine y5 ?_) | (with_reducible refine E2 ?_) | (with_reducible refine C7 ?_) | (with_reducible refine u3 ?_) | (refine E7 ?_))) <;>(first | rfl | exact PV.le.refl _ | (simp [grO,svS,svO];done) | (refine le_of_eq ?_;simp [grO,svS,svO])))
end Go.Ab.Td
namespace Go.Ab.Td
set_option maxRecDepth 100000
set_option maxRecDepth 100000
open Go Go.Ab
variable {P:Program}
set_option linter.unusedSimpArgs false
attribute [local irreducible] d8
set_option maxHeartbeats 8000000 in
theorem b3C (C:Laid P) (s:B4) (l:List Sn) (lo:List Ob) (n:Int) (hop:s.ops=lo++[svO n]) (hq:s.f3=l.map u1) (hl:l.length≤1000) (ho:lo.length≤1000) (hp:plF n 0 l<0):j6 P G j4 [aS s] [] (.v9 [aS s,pI 34]):=by
 refine i7 C (q0 C) rfl ?_
 have kT:=a0I C s 1 (by decide) (by rw [hop];simp;omega) (by rw [hop];simp;omega)
 rw [show s.ops.drop (s.ops.length - (1:Int).toNat)=[svO n] by rw [hop];simp] at kT
 have kF:=y9 C s l n hq (by omega)
 repeat' ((conv=>whnf);first | (with_reducible refine sC (by kernel_rfl) ?_) | ((first | (with_reducible first | refine sB ?_ | refine x8 ?_ | refine x9 ?_) | refine sP (by rfl) ?_);first | refine oT ?_ | refine oF ?_ | (refine Or.inr (Or.inr ⟨fun hsp=>?_,fun hsp=>?_⟩) <;>(try simp only [nm,List.length_map] at hsp) <;>try subst hsp)) | refine ⟨_,_,kT,?_⟩ | refine ⟨_,_,kF,?_⟩ | fail)
 all_goals (conv=>whnf)
 all_goals ((repeat' (first | (with_reducible exact PV.le.refl _) | exact PV.le.emp _ | exact K3.nil | (with_reducible refine x6 ?_) | (with_reducible refine s7 ?_) | (refine K3.cons ?_ ?_) | (with_reducible refine l8 ?_) | (with_reducible refine y5 ?_) | (with_reducible refine E2 ?_) | (with_reducible refine C7 ?_) | (with_reducible refine u3 ?_) | (refine E7 ?_))) <;>(first | rfl | exact PV.le.refl _ | (simp [grO,svS,svO];done) | (refine le_of_eq ?_;simp [grO,svS,svO])))
def rsS (s:B4) (lo:List Ob) (xh:List Cl) (t:B4) (i j:Nat):B4:={s with ops:=lo,heap:=xh,f3:=s.f3.take i,f62:=s.f62.take j,f5:=t.f5,f6:=t.f6,f7:=t.f7,f8:=t.f8,f9:=t.f9,f10:=t.f10,f11:=t.f11,f12:=t.f12,f13:=t.f13,f14:=t.f14,f15:=t.f15,f16:=t.f16,f17:=t.f17,f18:=t.f18,f19:=t.f19,f20:=t.f20,f21:=t.f21,f22:=t.f22,f23:=t.f23,f24:=t.f24,f25:=t.f25,f26:=t.f26,f27:=t.f27,f28:=t.f28,f29:=t.f29,f30:=t.f30,f31:=t.f31,f32:=t.f32,f33:=t.f33,f34:=t.f34,f35:=t.f35,f36:=t.f36,f37:=t.f37,f38:=t.f38,f39:=t.f39,f40:=t.f40,f41:=t.f41,f42:=t.f42,f43:=t.f43,f44:=t.f44,f45:=t.f45,f46:=t.f46,f47:=t.f47,f48:=t.f48,f49:=t.f49,f50:=t.f50,f51:=t.f51,f52:=t.f52,f53:=t.f53,f54:=t.f54,f55:=t.f55,f56:=t.f56,f57:=t.f57,f58:=t.f58,f59:=t.f59,f60:=t.f60,f61:=t.f61}
set_option maxHeartbeats 8000000 in
theorem b2w (C:Laid P) (s:B4) (l:List Sn) (lo:List Ob) (n:Int) (hop:s.ops=lo++[svO n]) (hq:s.f3=l.map u1) (hl:l.length≤1000) (ho:lo.length≤1000) (hd:s.d9.length≤1000) (i j:Nat) (hp:plF n 0 l=(i:Int)) (hn:Int) (xh:List Cl) (hx:l[i]?=some ⟨hn,xh,(j:Int)⟩) (t:B4) (ht:s.f62[j]?=some (grO t)) (h1:¬ ∃ o ∈ lo,n7 xh.length o) (h2:¬ ∃ o ∈ s.d9,n7 xh.length o):j6 P G j4 [aS s] [] (.v9 [aS (rsS s lo xh t i j),pI 0]):=by
 refine i7 C (q0 C) rfl ?_
 have kT:=a0I C s 1 (by decide) (by rw [hop];simp;omega) (by rw [hop];simp;omega)
 rw [show s.ops.drop (s.ops.length - (1:Int).toNat)=[svO n] by rw [hop];simp] at kT
 have kF:=y9 C s l n hq (by omega)
 have kD:=a4l C s 1 (by decide) (by rw [hop];simp;omega) (by rw [hop];simp;omega)
 rw [show s.ops.take (s.ops.length - (1:Int).toNat)=lo by rw [hop];simp] at kD
 have k1:=F1 C lo ⟨hn,xh,(j:Int)⟩ (by omega)
 have k2:=F1 C s.d9 ⟨hn,xh,(j:Int)⟩ (by omega)
 rw [show tt (∃ o ∈ lo,n7 xh.length o)=false from X8.mpr h1] at k1
 rw [show tt (∃ o ∈ s.d9,n7 xh.length o)=false from X8.mpr h2] at k2
 rw [hp] at kF
 have hil:=(List.getElem?_eq_some_iff.1 hx).1
 have hjl:=(List.getElem?_eq_some_iff.1 ht).1
 have hl3:s.f3.length=l.length:=by rw [hq,List.length_map]
 have hrow:s.f3[(i:Int).toNat]?=some (u1 ⟨hn,xh,(j:Int)⟩):=by rw [hq];exact C0 (f:=u1) hx
 have hrow2:s.f62[(j:Int).toNat]?=some (grO t):=by simpa using ht
 repeat' ((conv=>whnf);first | (with_reducible refine sC (by kernel_rfl) ?_) | ((first | (with_reducible first | refine sB ?_ | refine x8 ?_ | refine x9 ?_) | refine sP (by rfl) ?_);first | refine oT ?_ | refine oF ?_ | (refine Or.inr (Or.inr ⟨fun hsp=>?_,fun hsp=>?_⟩) <;>(try simp only [nm,List.length_map] at hsp) <;>try subst hsp)) | refine ⟨_,_,kT,?_⟩ | refine ⟨_,_,kF,?_⟩ | refine ⟨_,_,kD,?_⟩ | refine ⟨_,_,k1,?_⟩ | refine ⟨_,_,k2,?_⟩ | refine sS (e8 (by rfl) (by rfl) (by omega) hrow) ?_ | refine sS (e8 (by rfl) (by rfl) (by omega) hrow2) ?_ | refine sS (a9u (rows:=s.f3) (l:=0) (h:=(i:Int)) (k:=(i:Int)) (by rfl) (by rfl) (by rfl) (by rfl) (by omega) (by omega) (by rfl) (by omega)) ?_ | refine sS (a9u (rows:=s.f62) (l:=0) (h:=(j:Int)) (k:=(j:Int)) (by rfl) (by rfl) (by rfl) (by rfl) (by omega) (by omega) (by rfl) (by omega)) ?_ | fail)
 all_goals (conv=>whnf)
 all_goals ((repeat' (first | (with_reducible exact PV.le.refl _) | exact PV.le.emp _ | exact K3.nil | (with_reducible refine x6 ?_) | (with_reducible refine s7 ?_) | (refine K3.cons ?_ ?_) | (with_reducible refine l8 ?_) | (with_reducible refine y5 ?_) | (with_reducible refine E2 ?_) | (with_reducible refine C7 ?_) | (with_reducible refine u3 ?_) | (refine E7 ?_))) <;>(first | rfl | exact PV.le.refl _ | (simp [grO,svS,svO];done) | (refine le_of_eq ?_;simp [grO,svS,svO])))
end Go.Ab.Td

/- A part of the proof: the texts TdXa, TdSj, TdPu, TdVm, TdSt5, TdSw, TdSx1, TdSx2, TdSy, TdSv, TdVz. Under: nothing. -/
import Derived.Test.YtomfaadmmchdcaaDoorG46
import Derived.Test.YtomfaadmmchdcaaDoorG25
import Derived.Test.YtomfaadmmchdcaaDoorG44
import Derived.Test.YtomfaadmmchdcaaDoorG05
import Derived.Test.YtomfaadmmchdcaaDoorG27
import Derived.Test.YtomfaadmmchdcaaDoorG41
import Derived.Test.YtomfaadmmchdcaaDoorG21
import Derived.Test.YtomfaadmmchdcaaDoorG18
import Derived.Test.YtomfaadmmchdcaaDoorG16
set_option linter.unusedVariables false
namespace Go.Ab.Td
set_option maxRecDepth 100000
set_option maxRecDepth 100000
open Go Go.Ab
variable {P:Program}
set_option linter.unusedSimpArgs false
attribute [local irreducible] g8
noncomputable def b6U (h:List Cl) (l:List Wd):List Ob:=(l.take (3:Int).toNat).map fun w=>a9m h w.K w.A w.B w.N
def pcL:List (List UInt8):=b0S++[[97],[]]
def b1j (c:Int):List Ob:=if c.tmod 8<7 then [W4 ((pcL[(c.tmod 8).toNat]?).getD [])] else []
noncomputable def a9u (s:C3) (l:List Wd) (c:Int):C3:={s with ops:=(s.ops++b6U s.heap l)++b1j c}
set_option maxHeartbeats 8000000 in
theorem b6x (C:Laid P) (cells ops j8:List (List PV)) (l:List Wd) (c:Int) (hc:0≤c∧c<256) (s:C3) (ks:l8 P G F1 [.agg [.sl 5 cells,.sl 5 ops,.sl 1 j8]] [(0,0)] (aS s)) (hs:small s.heap) (ho:s.ops.length≤20):l8 P G M1 [.agg [.sl 5 cells,.sl 5 ops,.sl 1 j8],.sl 5 (l.map Wd.row),.int .u8 c] [] (aS (a9u s l c)):=by
 refine j3 C (b2l C) rfl ?_
 obtain ⟨L,hL⟩:∃ L,L=l.take (3:Int).toNat:=⟨_,rfl⟩
 have hLL:(List.take (3:Int).toNat l).length=L.length:=by rw [hL]
 have hLl:L.length≤3:=by rw [hL,show (3:Int).toNat=3 from rfl,List.length_take];omega
 obtain ⟨W,hW0⟩:∃ W,W=L.map fun w=>a9m s.heap w.K w.A w.B w.N:=⟨_,rfl⟩
 have hWl:W.length=L.length:=by rw [hW0,List.length_map]
 have hr:aS (a9u s l c)=aS {s with ops:=(s.ops++W)++b1j c}:=by rw [hW0,hL];rfl
 rw [hr]
 clear hr
 repeat' ((conv=>whnf);first | (with_reducible refine sC (by kernel_rfl) ?_) | ((first | (with_reducible first | refine sB ?_ | refine x4 ?_ | refine x5 ?_) | refine sP (by rfl) ?_);first | refine oT ?_ | refine oF ?_ | (refine Or.inr (Or.inr ⟨fun hsp=>?_,fun hsp=>?_⟩) <;>(try simp only [nm,List.length_map] at hsp) <;>try subst hsp)) | refine ⟨_,_,ks,?_⟩ | refine sS (b9X (f:=Wd.row) (by rfl) (by rfl) (by decide)) ?_ | fail)
 all_goals (conv=>whnf)
 intro X hX hW
 refine a7C hX (fun st (a:Nat × Nat × List Ob)=>st.upd [(19,.pv (pI (a.1:Int)))] [(16,.box 67 [.own 12 0 a.2.1::((a9P s).map AV.pv).tail] false),(12,.arr 7 (a.2.2.map i4) false)]) (fun a k=>a.1+k=L.length∧a.2.2.length=a.2.1∧a.2.2=s.ops++W.take a.1) (0,(List.map i4 s.ops).length,s.ops) L.length (by (conv=>whnf);first | done | rfl) ⟨by simp,by simp,by simp⟩ ?_
 intro m a ih hI
 obtain ⟨i,n,Q⟩:=a
 obtain ⟨hI1,hQn,hQ⟩:=hI
 dsimp only at hI1 hQn hQ
 have w1:IntKind.i64.wrap ((i:Int)+1)=((i+1:Nat):Int):=by rw [wrap_small (by omega) (by omega)];omega
 have hQl:Q.length≤23:=by rw [hQ,List.length_append,List.length_take];omega
 rcases a7o L i with ⟨w,hlt,hx⟩ | hge
 ·have hrow:=Y5 (f:=Wd.row) hx
  rw [hL] at hrow
  obtain ⟨K,A,B,N,S,hA,hB,hN⟩:=w
  have hWx:W[i]?=some (a9m s.heap K A B N):=by rw [hW0,List.getElem?_map,hx];rfl
  have kO:=a0R C s.heap hs K A B N S hA hB hN
  generalize a9m s.heap K A B N=o at kO hWx
  have hQ2:Q++[o]=s.ops++W.take (i+1):=by rw [List.take_add_one,hWx,hQ];simp
  repeat' ((conv=>whnf);first | (with_reducible refine sC (by kernel_rfl) ?_) | ((first | (with_reducible first | refine sB ?_ | refine x4 ?_ | refine x5 ?_) | refine sP (by rfl) ?_);first | refine Or.inl ⟨by first | assumption | (simp only [nm,List.length_map,hLL];first | done | assumption | omega),?_⟩ | refine Or.inr (Or.inl ⟨by first | assumption | (simp only [nm,List.length_map,hLL];first | done | assumption | omega),?_⟩) | (refine Or.inr (Or.inr ⟨fun hsp=>?_,fun hsp=>?_⟩) <;>(try simp only [nm,List.length_map,hLL] at hsp) <;>try subst hsp)) | refine ⟨_,_,kO,?_⟩ | refine sS (e9 (by rfl) (by rfl) (by omega) hrow) ?_ | refine sS (d7 (f:=i4) (l:=Q) (x':=[o]) (by rfl) (by rfl) hQn (by first | exact b7 | exact b0 | exact b6 (by rfl) (by rfl)) (by rfl) (by simp;omega)) ?_ | fail)
  all_goals (conv=>whnf)
  all_goals (refine ih (m - 1) (i+1,n+[o].length,Q++[o]) _ (by omega) ⟨by dsimp only;omega,by simp [hQn],hQ2⟩ (by (conv=>whnf);first | done | rfl | (rw [w1];first | done | rfl)))
 ·have hi:i=L.length:=by omega
  have hQf:Q=s.ops++W:=by rw [hQ,hi,← hWl,List.take_length]
  have t0:=Int.tmod_nonneg 8 hc.1
  have t1:=Int.tmod_lt_of_pos c (show (0:Int)<8 by decide)
  by_cases h7:c.tmod 8<7
  ·obtain ⟨k,hk⟩:∃ k:Nat,(k:Int)=c.tmod 8:=⟨(c.tmod 8).toNat,by omega⟩
   obtain ⟨x,hx⟩:∃ x,pcL[k]?=some x:=⟨_,List.getElem?_eq_getElem (by show k<7;omega)⟩
   have hw:IntKind.i64.wrap (c.tmod 8)=(k:Int):=by rw [hk];exact wrap_small (by omega) (by omega)
   have hrowP:(List.map (fun c=>[PV.str c]) (b0S++[[97],[]]))[(IntKind.i64.wrap (c.tmod 8)).toNat]?=some [PV.str x]:=by
    rw [hw,Int.toNat_natCast,List.getElem?_map]
    show Option.map _ pcL[k]?=_
    rw [hx];rfl
   have hp:b1j c=[W4 x]:=by unfold b1j;rw [if_pos h7,← hk,Int.toNat_natCast,hx];rfl
   have epub:List.take (n+[W4 x].length) (List.drop 0 (List.map i4 (Q++[W4 x])))=List.map i4 (Q++[W4 x]):=by
    rw [List.drop_zero,List.take_of_length_le (by simp;omega)]
   rw [hp,← hQf]
   repeat' ((conv=>whnf);first | (with_reducible refine sC (by kernel_rfl) ?_) | ((first | (with_reducible first | refine sB ?_ | refine x4 ?_ | refine x5 ?_) | refine sP (by rfl) ?_);first | refine Or.inl ⟨by first | assumption | (simp only [nm,List.length_map,hLL];first | done | assumption | omega),?_⟩ | refine Or.inr (Or.inl ⟨by first | assumption | (simp only [nm,List.length_map,hLL];first | done | assumption | omega),?_⟩) | (refine Or.inr (Or.inr ⟨fun hsp=>?_,fun hsp=>?_⟩) <;>(try simp only [nm,List.length_map,hLL] at hsp) <;>try subst hsp)) | refine ⟨_,_,b6v C,?_⟩ | refine ⟨_,_,b3w C _,?_⟩ | refine sS (d7 (f:=fun c=>[PV.str c]) (l:=b0S) (x':=[[97],[]]) (by rfl) (by rfl) (by rfl) (by first | exact b7 | exact b0 | exact b6 (by rfl) (by rfl)) (by rfl) (by decide)) ?_ | refine sS (b3Y (by rfl) (by rfl) (by rfl) (by omega) (by rw [hw];show (k:Int)<((7:Nat):Int);omega)) ?_ | refine sS (c1k (by rfl) (by rfl) hrowP) ?_ | refine sS (d7 (f:=i4) (l:=Q) (x':=[W4 x]) (by rfl) (by rfl) hQn (by first | exact b7 | exact b0 | exact b6 (by rfl) (by rfl)) (by rfl) (by simp;omega)) ?_ | fail)
   all_goals (conv=>whnf)
   all_goals (first | (rw [epub];exact PV.le.refl _) | (trace_state;sorry))
  ·have hp:b1j c=[]:=by unfold b1j;rw [if_neg h7]
   have epub:List.take n (List.drop 0 (List.map i4 Q))=List.map i4 Q:=by
    rw [List.drop_zero,List.take_of_length_le (by simp;omega)]
   rw [hp,List.append_nil,← hQf]
   repeat' ((conv=>whnf);first | (with_reducible refine sC (by kernel_rfl) ?_) | ((first | (with_reducible first | refine sB ?_ | refine x4 ?_ | refine x5 ?_) | refine sP (by rfl) ?_);first | refine Or.inl ⟨by first | assumption | (simp only [nm,List.length_map,hLL];first | done | assumption | omega),?_⟩ | refine Or.inr (Or.inl ⟨by first | assumption | (simp only [nm,List.length_map,hLL];first | done | assumption | omega),?_⟩) | (refine Or.inr (Or.inr ⟨fun hsp=>?_,fun hsp=>?_⟩) <;>(try simp only [nm,List.length_map,hLL] at hsp) <;>try subst hsp)) | fail)
   all_goals (conv=>whnf)
   all_goals (first | (rw [epub];exact PV.le.refl _) | (trace_state;sorry))
end Go.Ab.Td
namespace Go.Ab.Td
set_option maxRecDepth 100000
set_option maxRecDepth 100000
open Go Go.Ab
variable {P:Program}
set_option linter.unusedSimpArgs false
attribute [local irreducible] g8
theorem ttS {p:Prop} (h:p):tt p=true:=v5.mpr h
set_option maxHeartbeats 4000000 in
theorem a6G (C:Laid P) (s:C3):l8 P G P9 [.agg (grO s),.agg (grO s)] [] (.bool true):=by
 refine j3 C (a7A C) rfl ?_
 repeat' ((conv=>whnf);first | (with_reducible refine sC (by kernel_rfl) ?_) | ((first | (with_reducible first | refine sB ?_ | refine x4 ?_ | refine x5 ?_) | refine sP (by rfl) ?_);first | refine Or.inl ⟨by first | assumption | (simp only [nm,beq_self_eq_true,Bool.and_self,Bool.and_true,List.length_map];first | done | assumption | omega),?_⟩ | refine Or.inr (Or.inl ⟨by first | assumption | (simp only [nm,beq_self_eq_true,Bool.and_self,Bool.and_true,List.length_map];first | done | assumption | omega),?_⟩) | (refine Or.inr (Or.inr ⟨fun hsp=>?_,fun hsp=>?_⟩) <;>(try simp only [nm,beq_self_eq_true,Bool.and_self,Bool.and_true,List.length_map] at hsp) <;>try subst hsp)) | fail)
 all_goals (conv=>whnf)
 all_goals (first | exact PV.le.refl _ | (refine le_of_eq ?_;simp))
set_option maxHeartbeats 8000000 in
theorem a8g (C:Laid P) (s:C3) (l:List Sn) (ts:List C3) (h3:s.f3=l.map b3R) (h62:s.f62=ts.map grO) (hb:big s.heap) (hlb:∀ x ∈ l,big x.heap) (hll:l.length≤1000000) (htl:ts.length≤1000000) (ho:s.ops.length≤1000000) (hd:s.j8.length≤1000000):l8 P G x2 [aS s,aS s] [] (.bool true):=by
 refine j3 C (a3M C) rfl ?_
 have k1:=J9 C s.ops s.ops (by omega)
 rw [ttS rfl] at k1
 have k2:=J9 C s.j8 s.j8 (by omega)
 rw [ttS rfl] at k2
 have k3:=a7G C s.heap s.heap hb
 rw [ttS rfl] at k3
 have hl3:s.f3.length=l.length:=by rw [h3,List.length_map]
 have hl62:s.f62.length=ts.length:=by rw [h62,List.length_map]
 repeat' ((conv=>whnf);first | (with_reducible refine sC (by kernel_rfl) ?_) | ((first | (with_reducible first | refine sB ?_ | refine x4 ?_ | refine x5 ?_) | refine sP (by rfl) ?_);first | refine Or.inl ⟨by first | assumption | (simp only [nm,beq_self_eq_true,Bool.and_self,Bool.and_true,List.length_map,hl3,hl62];first | done | assumption | omega),?_⟩ | refine Or.inr (Or.inl ⟨by first | assumption | (simp only [nm,beq_self_eq_true,Bool.and_self,Bool.and_true,List.length_map,hl3,hl62];first | done | assumption | omega),?_⟩) | (refine Or.inr (Or.inr ⟨fun hsp=>?_,fun hsp=>?_⟩) <;>(try simp only [nm,beq_self_eq_true,Bool.and_self,Bool.and_true,List.length_map,hl3,hl62] at hsp) <;>try subst hsp)) | refine ⟨_,_,k1,?_⟩ | refine ⟨_,_,k2,?_⟩ | refine ⟨_,_,k3,?_⟩ | fail)
 all_goals (conv=>whnf)
 intro X hX hW
 refine a7C hX (fun st (i:Nat)=>st.upd [(5,.pv (pI (i:Int)))] []) (fun i k=>i+k=l.length) 0 l.length (by (conv=>whnf);first | done | rfl) (by omega) ?_
 intro m i ih hI
 rcases a7o l i with ⟨x,hlt,hx⟩ | hge
 ·have hrow:s.f3[(i:Int).toNat]?=some (b3R x):=by rw [h3];exact Y5 (f:=b3R) hx
  have kx:=a7G C x.heap x.heap (hlb x (List.mem_of_getElem? hx))
  rw [ttS rfl] at kx
  repeat' ((conv=>whnf);first | (with_reducible refine sC (by kernel_rfl) ?_) | ((first | (with_reducible first | refine sB ?_ | refine x4 ?_ | refine x5 ?_) | refine sP (by rfl) ?_);first | refine Or.inl ⟨by first | assumption | (simp only [nm,beq_self_eq_true,Bool.and_self,Bool.and_true,List.length_map,hl3,hl62];first | done | assumption | omega),?_⟩ | refine Or.inr (Or.inl ⟨by first | assumption | (simp only [nm,beq_self_eq_true,Bool.and_self,Bool.and_true,List.length_map,hl3,hl62];first | done | assumption | omega),?_⟩) | (refine Or.inr (Or.inr ⟨fun hsp=>?_,fun hsp=>?_⟩) <;>(try simp only [nm,beq_self_eq_true,Bool.and_self,Bool.and_true,List.length_map,hl3,hl62] at hsp) <;>try subst hsp)) | refine ⟨_,_,kx,?_⟩ | refine sS (e9 (by rfl) (by rfl) (by omega) hrow) ?_ | fail)
  all_goals (conv=>whnf)
  all_goals (refine ih (m - 1) (i+1) _ (by omega) (by omega) (by (conv=>whnf);first | done | rfl | (simp (disch:=omega) only [V5])))
 ·repeat' ((conv=>whnf);first | (with_reducible refine sC (by kernel_rfl) ?_) | ((first | (with_reducible first | refine sB ?_ | refine x4 ?_ | refine x5 ?_) | refine sP (by rfl) ?_);first | refine Or.inl ⟨by first | assumption | (simp only [nm,beq_self_eq_true,Bool.and_self,Bool.and_true,List.length_map,hl3,hl62];first | done | assumption | omega),?_⟩ | refine Or.inr (Or.inl ⟨by first | assumption | (simp only [nm,beq_self_eq_true,Bool.and_self,Bool.and_true,List.length_map,hl3,hl62];first | done | assumption | omega),?_⟩) | (refine Or.inr (Or.inr ⟨fun hsp=>?_,fun hsp=>?_⟩) <;>(try simp only [nm,beq_self_eq_true,Bool.and_self,Bool.and_true,List.length_map,hl3,hl62] at hsp) <;>try subst hsp)) | fail)
  all_goals (conv=>whnf)
  intro Y hY hWY
  refine a7C hY (fun st (i:Nat)=>st.upd [(8,.pv (pI (i:Int)))] []) (fun i k=>i+k=ts.length) 0 ts.length (by (conv=>whnf);first | done | rfl) (by omega) ?_
  intro m i ih hI
  rcases a7o ts i with ⟨x,hlt,hx⟩ | hge2
  ·have hrow:s.f62[(i:Int).toNat]?=some (grO x):=by rw [h62];exact Y5 (f:=grO) hx
   repeat' ((conv=>whnf);first | (with_reducible refine sC (by kernel_rfl) ?_) | ((first | (with_reducible first | refine sB ?_ | refine x4 ?_ | refine x5 ?_) | refine sP (by rfl) ?_);first | refine Or.inl ⟨by first | assumption | (simp only [nm,beq_self_eq_true,Bool.and_self,Bool.and_true,List.length_map,hl3,hl62];first | done | assumption | omega),?_⟩ | refine Or.inr (Or.inl ⟨by first | assumption | (simp only [nm,beq_self_eq_true,Bool.and_self,Bool.and_true,List.length_map,hl3,hl62];first | done | assumption | omega),?_⟩) | (refine Or.inr (Or.inr ⟨fun hsp=>?_,fun hsp=>?_⟩) <;>(try simp only [nm,beq_self_eq_true,Bool.and_self,Bool.and_true,List.length_map,hl3,hl62] at hsp) <;>try subst hsp)) | refine ⟨_,_,a6G C x,?_⟩ | refine sS (e9 (by rfl) (by rfl) (by omega) hrow) ?_ | fail)
   all_goals (conv=>whnf)
   all_goals (refine ih (m - 1) (i+1) _ (by omega) (by omega) (by (conv=>whnf);first | done | rfl | (simp (disch:=omega) only [V5])))
  ·repeat' ((conv=>whnf);first | (with_reducible refine sC (by kernel_rfl) ?_) | ((first | (with_reducible first | refine sB ?_ | refine x4 ?_ | refine x5 ?_) | refine sP (by rfl) ?_);first | refine Or.inl ⟨by first | assumption | (simp only [nm,beq_self_eq_true,Bool.and_self,Bool.and_true,List.length_map,hl3,hl62];first | done | assumption | omega),?_⟩ | refine Or.inr (Or.inl ⟨by first | assumption | (simp only [nm,beq_self_eq_true,Bool.and_self,Bool.and_true,List.length_map,hl3,hl62];first | done | assumption | omega),?_⟩) | (refine Or.inr (Or.inr ⟨fun hsp=>?_,fun hsp=>?_⟩) <;>(try simp only [nm,beq_self_eq_true,Bool.and_self,Bool.and_true,List.length_map,hl3,hl62] at hsp) <;>try subst hsp)) | refine ⟨_,_,a6G C s,?_⟩ | fail)
   all_goals (conv=>whnf)
   all_goals (first | exact PV.le.refl _ | (refine le_of_eq ?_;simp))
end Go.Ab.Td
namespace Go.Ab.Td
set_option maxRecDepth 100000
open Go Go.Ab
variable {P:Program}
set_option linter.unusedSimpArgs false
attribute [local irreducible] g8
end Go.Ab.Td
namespace Go.Ab.Td
set_option maxRecDepth 100000
open Go Go.Ab
set_option linter.unusedSimpArgs false
end Go.Ab.Td
namespace Go.Ab.Td
set_option maxRecDepth 100000
open Go Go.Ab
variable {P:Program}
set_option linter.unusedSimpArgs false
attribute [local irreducible] g8
end Go.Ab.Td
namespace Go.Ab.Td
set_option maxRecDepth 100000
open Go Go.Ab
variable {P:Program}
set_option linter.unusedSimpArgs false
attribute [local irreducible] g8
end Go.Ab.Td
namespace Go.Ab.Td
set_option maxRecDepth 100000
open Go Go.Ab
variable {P:Program}
set_option linter.unusedSimpArgs false
attribute [local irreducible] g8
end Go.Ab.Td
namespace Go.Ab.Td
set_option maxRecDepth 100000
open Go Go.Ab
variable {P:Program}
set_option linter.unusedSimpArgs false
attribute [local irreducible] g8
end Go.Ab.Td
namespace Go.Ab.Td
set_option maxRecDepth 100000
open Go Go.Ab
variable {P:Program}
set_option linter.unusedSimpArgs false
attribute [local irreducible] g8
end Go.Ab.Td
namespace Go.Ab.Td
set_option maxRecDepth 100000
open Go Go.Ab
variable {P:Program}
set_option linter.unusedSimpArgs false
attribute [local irreducible] g8
end Go.Ab.Td
namespace Go.Ab.Td
set_option maxRecDepth 100000
open Go Go.Ab
variable {P:Program}
set_option linter.unusedSimpArgs false
end Go.Ab.Td

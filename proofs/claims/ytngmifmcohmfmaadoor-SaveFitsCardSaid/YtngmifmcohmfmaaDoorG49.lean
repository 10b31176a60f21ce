/- A part of the proof: the texts TdRx. Under: nothing. -/
import Derived.Test.YtngmifmcohmfmaaDoorG45
import Derived.Test.YtngmifmcohmfmaaDoorG47
import Derived.Test.YtngmifmcohmfmaaDoorG48
set_option linter.unusedVariables false
namespace Go.Ab.Td
set_option maxRecDepth 100000
set_option maxRecDepth 100000
open Go Go.Ab
variable {P:Program}
set_option linter.unusedSimpArgs false
attribute [local irreducible] f0
theorem c1t {s:x6} (hst:c4u s) (hv:a3r s.heap) (hk:∀ o ∈ s.ops,o.kind≠12) (hf:∀ o ∈ s.ops,fits s.heap o) (hd:∀ o ∈ s.e8,fits s.heap o):SI True 0 {s with f45:=1} [] []∧SX {s with f45:=1}:=by
 obtain ⟨a,b⟩:=c3R hst hv hk
 exact ⟨⟨a.h3,a.h62,a.sh,a.ol,fun _=>hf,a.on,a.dl,fun _=>hd,a.ll,a.tl,a.sv,a.pw,a.made⟩,b⟩
theorem c2L:b1f (fun _ d _ _=>∀ p ∈ d,p.kind=9):=⟨fun _ h k p hp=>(List.mem_append.1 hp).elim (k p) (h p),fun _ _ k=>k,fun _ k=>k⟩
set_option maxHeartbeats 8000000 in
theorem a9S (C:Laid P) (cells ops e8:List (List PV)) (hc:∀ r ∈ cells,a4U r) (ho:∀ r ∈ ops,a4U r) (hd:∀ r ∈ e8,∃ D,r=[.int .u8 D]∧0≤D∧D<256) (l:List (Int × Wd)) (hl:∀ p ∈ l,0≤p.1∧p.1<256) (n:Int) (hn:0≤n∧n<256):j5 P G a1I [.agg [.sl 5 cells,.sl 5 ops,.sl 1 e8],.sl 6 (l.map a6C),.int .u8 n] [] (.bool true):=by
 refine i5 C (b0C C) rfl ?_
 obtain ⟨s,⟨hst,hv,hk12,hfo,hfd, -⟩,kst⟩:=b8C C cells ops e8 hc ho hd
 have kS0:=b3t C cells ops e8 s kst
 obtain ⟨hsi,hsx⟩:=c1t hst hv hk12 hfo hfd
 have hd9:∀ p ∈ s.e8,p.kind=9:=by
  obtain ⟨_,dd,_,rfl,_,_,_,_,_,h⟩:=hst
  exact fun p hp=>by obtain ⟨j,rfl, -⟩:=h p hp;rfl
 obtain ⟨s0,hs0⟩:∃ s0:x6,s0={s with f45:=1}:=⟨_,rfl⟩
 have hd9':∀ p ∈ s0.e8,p.kind=9:=by rw [hs0];exact hd9
 rw [← hs0] at kS0 hsi hsx
 clear hs0 hst hv hk12 hfo hfd
 obtain ⟨t,sl,ts,si,sx,td9,kA⟩:=c2i C c2L (by omega) hsi hsx hd9' l hl
 clear hsi hsx
 obtain ⟨l9,hl9⟩:∃ l9,l9=t.ops.take (99:Int).toNat:=⟨_,rfl⟩
 have ll9:l9.length≤99:=by rw [hl9,show (99:Int).toNat=99 from rfl,List.length_take];omega
 obtain ⟨o,hoq⟩:∃ o,o=svO (IntKind.i64.wrap (1+IntKind.i64.wrap (n.tmod 12))):=⟨_,rfl⟩
 have hq0:=Int.tmod_nonneg 12 hn.1
 have hq1:=Int.tmod_lt_of_pos n (show (0:Int)<12 by decide)
 have hon:o.n<9223372036854775808:=by rw [hoq];exact c5D _
 obtain ⟨t1,ht1⟩:∃ t1:x6,t1={t with ops:=l9++[o]}:=⟨_,rfl⟩
 have si1:SI True (0+60) t1 sl ts:=by
  rw [ht1]
  refine si.b3M (by rw [List.length_append];simp;omega) (fun _ p hp=>?_) (fun p hp=>?_)
  ·rcases List.mem_append.1 hp with hp | hp
   ·rw [hl9] at hp;exact si.of' trivial p (List.mem_of_mem_take hp)
   ·simp only [List.mem_singleton] at hp
    rw [hp,hoq]
    exact v5 (b5v (by rw [wrap_small (v:=n.tmod 12) (by omega) (by omega),wrap_small (by omega) (by omega)];omega)) rfl
  ·rcases List.mem_append.1 hp with hp | hp
   ·rw [hl9] at hp;exact si.on p (List.mem_of_mem_take hp)
   ·simp only [List.mem_singleton] at hp;rw [hp];exact hon
 have sx1:SX t1:=by
  rw [ht1]
  intro p hp hk
  rcases List.mem_append.1 hp with hp | hp
  ·rw [hl9] at hp;exact sx p (List.mem_of_mem_take hp) hk
  ·simp only [List.mem_singleton] at hp;rw [hp,hoq];rfl
 have hop1:t1.ops=l9++[o]:=by rw [ht1]
 obtain ⟨v,e,l2,ts2,si2,sx2,q,kR, -⟩:=b1t C si1 sx1
 clear hl hc ho hd kst sx sx1 sx2
 have ko:=b3s C (IntKind.i64.wrap (1+IntKind.i64.wrap (n.tmod 12)))
 rw [← hoq] at ko
 have si0:=si
 rcases q with ⟨rfl,rfl,rfl,q⟩ | ⟨rfl,lo,o',i,x,g,h1,h2,h3,h4,h5,h6,rfl,rfl,rfl⟩
 ·have e34:e=34:=by
   rcases q with ⟨-,q⟩ | ⟨lo,o2,h1,⟨-,q⟩ | ⟨q, -⟩⟩
   ·rw [hop1] at q;simp at q
   ·rw [hop1] at h1
    obtain ⟨-,h1⟩:=List.append_inj' h1 rfl
    simp only [List.cons.injEq,and_true] at h1
    rw [← h1,hoq] at q
    exact absurd rfl q
   ·exact q
  subst e34
  have kSS:=b2x C si1
  have epub:List.take ((List.map g8 (List.take (99:Int).toNat t.ops)).length+[o].length) (List.drop 0 (List.map g8 (List.take (99:Int).toNat t.ops++[o])))=List.map g8 (List.take (99:Int).toNat t.ops++[o]):=by
   rw [List.drop_zero,List.take_of_length_le (by simp)]
  have kCl:=b0P C l9 (by omega)
  rw [hl9] at kCl ht1
  rw [ht1] at kR kSS
  repeat' ((conv=>whnf);first | (with_reducible refine sC (by kernel_rfl) ?_) | ((first | (with_reducible first | refine sB ?_ | refine p8 ?_ | refine p9 ?_) | refine sP (by rfl) ?_);first | refine oT ?_ | refine oF ?_ | (refine Or.inr (Or.inr ⟨fun hsp=>?_,fun hsp=>?_⟩) <;>(try simp only [nm,List.length_map] at hsp) <;>try subst hsp)) | refine ⟨_,_,TdW19.ok C,?_⟩ | refine ⟨_,_,kS0,?_⟩ | refine ⟨_,_,kA,?_⟩ | refine ⟨_,_,ko,?_⟩ | refine ⟨_,_,kCl,?_⟩ | refine sS (b0Y (f:=g8) (by rfl) (by rfl) (by decide)) ?_ | refine sS (j2 (f:=g8) (l:=t.ops.take (99:Int).toNat) (x':=[o]) (by rfl) (by rfl) (by first | rfl | exact (List.length_map ..).symm) (by first | exact d7 | exact b8 | exact b9 (by rfl) (by rfl)) (by rfl) (by simp only [List.length_map,List.length_take,show (99:Int).toNat=99 from rfl];simp;omega)) ?_ | (rw [epub];refine ⟨_,_,kR,?_⟩) | (rw [epub];refine ⟨_,_,kSS,?_⟩) | refine sS (u5 (by rfl) (by first | exact d7 | exact b8 | exact b9 (by rfl) (by rfl)) (by rfl) (by (try simp only [ln]);omega)) ?_ | refine sS (u5 (f:=g8) (x':=[⟨_,_,_,_,_,_,_⟩]) (by rfl) (by first | exact d7 | exact b8 | exact b9 (by rfl) (by rfl)) (by rfl) (by (try simp only [ln]);omega)) ?_ | refine sS (u5 (f:=j6) (x':=[⟨_,_,_,_,_,_,_⟩]) (by rfl) (by first | exact d7 | exact b8 | exact b9 (by rfl) (by rfl)) (by rfl) (by (try simp only [ln]);omega)) ?_ | refine sS (j2 (by rfl) (by rfl) (by (try simp only [ln]);omega) (by first | exact d7 | exact b8 | exact b9 (by rfl) (by rfl)) (by rfl) (by (try simp only [ln]);omega)) ?_ | refine sS (j2 (f:=g8) (x':=[⟨_,_,_,_,_,_,_⟩]) (by rfl) (by rfl) (by (try simp only [ln]);omega) (by first | exact d7 | exact b8 | exact b9 (by rfl) (by rfl)) (by rfl) (by (try simp only [ln]);omega)) ?_ | refine sS (j2 (f:=j6) (x':=[⟨_,_,_,_,_,_,_⟩]) (by rfl) (by rfl) (by (try simp only [ln]);omega) (by first | exact d7 | exact b8 | exact b9 (by rfl) (by rfl)) (by rfl) (by (try simp only [ln]);omega)) ?_ | refine sS (k8 (by rfl) (by first | exact d7 | exact b8 | exact b9 (by rfl) (by rfl)) (by rfl) (by (try simp only [ln]);omega)) ?_ | refine sS (k8 (f:=g8) (x':=[⟨_,_,_,_,_,_,_⟩]) (by rfl) (by first | exact d7 | exact b8 | exact b9 (by rfl) (by rfl)) (by rfl) (by (try simp only [ln]);omega)) ?_ | refine sS (k8 (f:=j6) (x':=[⟨_,_,_,_,_,_,_⟩]) (by rfl) (by first | exact d7 | exact b8 | exact b9 (by rfl) (by rfl)) (by rfl) (by (try simp only [ln]);omega)) ?_ | refine sS (a1h (by rfl) (by rfl) (by rfl) (by rfl) (by (try simp only [ln]);omega) (by (try simp only [ln]);omega) (by first | rfl | ((try simp only [ln]);omega)) (by (try simp only [ln]);omega)) ?_ | refine sS (Q4 (by rfl) (by rfl) (by rfl) (by (try simp only [ln]);omega) (by (try simp only [ln]);omega) (by (try simp only [ln]);omega)) ?_ | refine sS (a3P (by rfl) (by rfl) (by rfl) (by (try simp only [ln]);omega) (by (try simp only [ln]);omega) (by (try simp only [ln]);omega)) ?_ | refine sS (W7 (by rfl) (by rfl) (by rfl) (by (try simp only [ln]);omega) (by (try simp only [ln]);omega) (by (try simp only [ln]);omega)) ?_ | refine sS (e7 (by rfl) (by rfl) (by omega) (L9 (d:=cl0) (by omega) (by omega))) ?_ | refine sS (e7 (by rfl) (by rfl) (by omega) (L9 (d:=ob0) (by omega) (by omega))) ?_ | refine sS (a1g (by rfl) (by rfl) (by omega)) ?_ | refine sS (a4M (by rfl) (by rfl) (by omega)) ?_ | fail)
  all_goals (conv=>whnf)
  all_goals (first | exact PV.le.refl _ | (trace_state;sorry))
 ·have ei:i≤sl.length:=by have:=(List.getElem?_eq_some_iff.1 h3).1;omega
  obtain ⟨hlo,ho'⟩:=List.append_inj' (h1.symm.trans hop1) rfl
  have hlo:=hlo.symm
  subst hlo
  have hi:=(List.getElem?_eq_some_iff.1 h3).1
  obtain ⟨v,hv⟩:∃ v:x6,v=rsS t1 l9 x.heap g i i:=⟨_,rfl⟩
  rw [← hv] at kR si2
  have vo:v.ops=l9:=by rw [hv];rfl
  have vd:v.e8=t.e8:=by rw [hv,ht1];rfl
  have vl3:v.f3.length=i:=by rw [si2.h3,List.length_map,List.length_take];omega
  have vl62:v.f62.length=i:=by rw [si2.h62,List.length_map,List.length_take];have:=si.tl;omega
  have tl3:t.f3.length=sl.length:=by rw [si.h3,List.length_map]
  have tl62:t.f62.length=sl.length:=by rw [si.h62,List.length_map];exact si.tl
  have fo:=si2.of' trivial
  have fd:=si2.df trivial
  have on2:=si2.on
  have dn2:∀ p ∈ v.e8,p.n<9223372036854775808:=fun p hp=>by
   have k9:=td9 p (by rw [← vd];exact hp)
   have:=(fd p hp).1.2.1.1
   omega
  have ol2:=si2.ol
  have dl2:=si2.dl
  have kCk:=kc0 C si2.sh.v (by have:=si2.sh.len;omega) si2.sh.nc
  have hvo:v.ops=List.take (99:Int).toNat t.ops:=by rw [vo,hl9]
  clear hv h2 h4 h5 h6 h1 ho'
  have kC2:=b0P C v.ops (by omega)
  have epub:List.take ((List.map g8 (List.take (99:Int).toNat t.ops)).length+[o].length) (List.drop 0 (List.map g8 (List.take (99:Int).toNat t.ops++[o])))=List.map g8 (List.take (99:Int).toNat t.ops++[o]):=by
   rw [List.drop_zero,List.take_of_length_le (by simp)]
  have kCl:=b0P C l9 (by omega)
  rw [hl9] at kCl ht1
  rw [ht1] at kR
  repeat' ((conv=>whnf);first | (with_reducible refine sC (by kernel_rfl) ?_) | ((first | (with_reducible first | refine sB ?_ | refine p8 ?_ | refine p9 ?_) | refine sP (by rfl) ?_);first | refine oT ?_ | refine oF ?_ | (refine Or.inr (Or.inr ⟨fun hsp=>?_,fun hsp=>?_⟩) <;>(try simp only [nm,List.length_map] at hsp) <;>try subst hsp)) | refine ⟨_,_,TdW19.ok C,?_⟩ | refine ⟨_,_,kS0,?_⟩ | refine ⟨_,_,kA,?_⟩ | refine ⟨_,_,ko,?_⟩ | refine ⟨_,_,kC2,?_⟩ | refine ⟨_,_,kCl,?_⟩ | refine sS (b0Y (f:=g8) (by rfl) (by rfl) (by decide)) ?_ | refine sS (j2 (f:=g8) (l:=t.ops.take (99:Int).toNat) (x':=[o]) (by rfl) (by rfl) (by first | rfl | exact (List.length_map ..).symm) (by first | exact d7 | exact b8 | exact b9 (by rfl) (by rfl)) (by rfl) (by simp only [List.length_map,List.length_take,show (99:Int).toNat=99 from rfl];simp;omega)) ?_ | (rw [epub];refine ⟨_,_,kR,?_⟩) | refine sS (j2 (f:=g8) (l:=v.ops) (x':=v.e8) (by rfl) (by rfl) (by first | rfl | exact (List.length_map ..).symm) (by first | exact d7 | exact b8 | exact b9 (by rfl) (by rfl)) (by rfl) (by simp;omega)) ?_ | refine sS (u5 (by rfl) (by first | exact d7 | exact b8 | exact b9 (by rfl) (by rfl)) (by rfl) (by (try simp only [ln]);omega)) ?_ | refine sS (u5 (f:=g8) (x':=[⟨_,_,_,_,_,_,_⟩]) (by rfl) (by first | exact d7 | exact b8 | exact b9 (by rfl) (by rfl)) (by rfl) (by (try simp only [ln]);omega)) ?_ | refine sS (u5 (f:=j6) (x':=[⟨_,_,_,_,_,_,_⟩]) (by rfl) (by first | exact d7 | exact b8 | exact b9 (by rfl) (by rfl)) (by rfl) (by (try simp only [ln]);omega)) ?_ | refine sS (j2 (by rfl) (by rfl) (by (try simp only [ln]);omega) (by first | exact d7 | exact b8 | exact b9 (by rfl) (by rfl)) (by rfl) (by (try simp only [ln]);omega)) ?_ | refine sS (j2 (f:=g8) (x':=[⟨_,_,_,_,_,_,_⟩]) (by rfl) (by rfl) (by (try simp only [ln]);omega) (by first | exact d7 | exact b8 | exact b9 (by rfl) (by rfl)) (by rfl) (by (try simp only [ln]);omega)) ?_ | refine sS (j2 (f:=j6) (x':=[⟨_,_,_,_,_,_,_⟩]) (by rfl) (by rfl) (by (try simp only [ln]);omega) (by first | exact d7 | exact b8 | exact b9 (by rfl) (by rfl)) (by rfl) (by (try simp only [ln]);omega)) ?_ | refine sS (k8 (by rfl) (by first | exact d7 | exact b8 | exact b9 (by rfl) (by rfl)) (by rfl) (by (try simp only [ln]);omega)) ?_ | refine sS (k8 (f:=g8) (x':=[⟨_,_,_,_,_,_,_⟩]) (by rfl) (by first | exact d7 | exact b8 | exact b9 (by rfl) (by rfl)) (by rfl) (by (try simp only [ln]);omega)) ?_ | refine sS (k8 (f:=j6) (x':=[⟨_,_,_,_,_,_,_⟩]) (by rfl) (by first | exact d7 | exact b8 | exact b9 (by rfl) (by rfl)) (by rfl) (by (try simp only [ln]);omega)) ?_ | refine sS (a1h (by rfl) (by rfl) (by rfl) (by rfl) (by (try simp only [ln]);omega) (by (try simp only [ln]);omega) (by first | rfl | ((try simp only [ln]);omega)) (by (try simp only [ln]);omega)) ?_ | refine sS (Q4 (by rfl) (by rfl) (by rfl) (by (try simp only [ln]);omega) (by (try simp only [ln]);omega) (by (try simp only [ln]);omega)) ?_ | refine sS (a3P (by rfl) (by rfl) (by rfl) (by (try simp only [ln]);omega) (by (try simp only [ln]);omega) (by (try simp only [ln]);omega)) ?_ | refine sS (W7 (by rfl) (by rfl) (by rfl) (by (try simp only [ln]);omega) (by (try simp only [ln]);omega) (by (try simp only [ln]);omega)) ?_ | refine sS (e7 (by rfl) (by rfl) (by omega) (L9 (d:=cl0) (by omega) (by omega))) ?_ | refine sS (e7 (by rfl) (by rfl) (by omega) (L9 (d:=ob0) (by omega) (by omega))) ?_ | refine sS (a1g (by rfl) (by rfl) (by omega)) ?_ | refine sS (a4M (by rfl) (by rfl) (by omega)) ?_ | fail)
  all_goals (conv=>whnf)
  intro X hX hW
  refine a2p hX (fun st (i:Nat)=>st.upd [(61,.pv (pI (i:Int)))] []) (fun i k=>i+k=v.ops.length+v.e8.length) 0 (v.ops.length+v.e8.length) (by (conv=>whnf);first | done | rfl) (by simp) ?_
  intro m j ih hI
  rcases a0t (v.ops++v.e8) j with ⟨p,hlt,hx⟩ | hge
  ·have hrow:=y3 (f:=g8) hx
   rw [Int.toNat_natCast] at hrow
   rw [List.length_append] at hlt
   have hf:fits v.heap p∧p.n<9223372036854775808:=(List.mem_append.1 (List.mem_of_getElem? hx)).elim (fun h=>⟨fo p h,on2 p h⟩) (fun h=>⟨fd p h,dn2 p h⟩)
   have kF:=a9R C v.heap p hf.2
   rw [Q5.mpr hf.1] at kF
   have w1:IntKind.i64.wrap ((j:Int)+1)=((j+1:Nat):Int):=by rw [wrap_small (by omega) (by omega)];omega
   repeat' ((conv=>whnf);first | (with_reducible refine sC (by kernel_rfl) ?_) | ((first | (with_reducible first | refine sB ?_ | refine p8 ?_ | refine p9 ?_) | refine sP (by rfl) ?_);first | refine oT ?_ | refine oF ?_ | (refine Or.inr (Or.inr ⟨fun hsp=>?_,fun hsp=>?_⟩) <;>(try simp only [nm,List.length_map] at hsp) <;>try subst hsp)) | refine ⟨_,_,kF,?_⟩ | refine sS (b5e (by rfl) (by rfl) (by rfl) (by omega) (by simp only [List.length_map];omega)) ?_ | refine sS (c2O (by rfl) (by rfl) hrow (by rfl)) ?_ | fail)
   all_goals (conv=>whnf)
   all_goals (refine ih (m - 1) (j+1) _ (by omega) (by omega) (by (conv=>whnf);first | done | rfl | (rw [w1];first | done | rfl)))
  ·rw [List.length_append] at hge
   have lk:(List.take (99:Int).toNat t.ops).length≤99:=by rw [List.length_take,show (99:Int).toNat=99 from rfl];omega
   have hwk:IntKind.i64.wrap ((((List.map g8 (List.take (99:Int).toNat t.ops)).length+[o].length:Nat):Int) - 1)=(((List.take (99:Int).toNat t.ops).length:Nat):Int):=by
    rw [List.length_map]
    simp only [List.length_cons,List.length_nil]
    rw [wrap_small (by omega) (by omega)];omega
   have epub2:List.take (List.take (99:Int).toNat t.ops).length (List.drop 0 (List.map g8 (List.take (99:Int).toNat t.ops++[o])))=List.map g8 (List.take (99:Int).toNat t.ops):=by
    rw [List.drop_zero,List.map_append,List.take_left' (by simp)]
   have kE1:j5 P G m7 [.sl 7 (List.map g8 v.ops),.sl 7 (List.map g8 (List.take (99:Int).toNat t.ops))] [] (.bool true):=by rw [← hvo];exact a8o C v.ops (by omega)
   have kE2:j5 P G m7 [.sl 7 (List.map g8 v.e8),.sl 7 (List.map g8 t.e8)] [] (.bool true):=by rw [← vd];exact a8o C v.e8 (by omega)
   repeat' ((conv=>whnf);first | (with_reducible refine sC (by kernel_rfl) ?_) | ((first | (with_reducible first | refine sB ?_ | refine p8 ?_ | refine p9 ?_) | refine sP (by rfl) ?_);first | refine Or.inl ⟨by first | assumption | (simp only [nm,List.length_map,vl3,vl62,tl3,tl62];first | done | assumption | omega),?_⟩ | refine Or.inr (Or.inl ⟨by first | assumption | (simp only [nm,List.length_map,vl3,vl62,tl3,tl62];first | done | assumption | omega),?_⟩) | (refine Or.inr (Or.inr ⟨fun hsp=>?_,fun hsp=>?_⟩) <;>(try simp only [nm,List.length_map,vl3,vl62,tl3,tl62] at hsp) <;>try subst hsp)) | refine ⟨_,_,kE2,?_⟩ | refine ⟨_,_,kCk,?_⟩ | refine sS (c3s (k:=(List.take (99:Int).toNat t.ops).length) (by rfl) (by rfl) (by rfl) hwk (by show _+_≤(List.map g8 _).length;simp) (by rfl)) ?_ | (rw [epub2];refine ⟨_,_,kE1,?_⟩) | fail)
   all_goals (conv=>whnf)
   all_goals (first | exact PV.le.refl _ | (refine le_of_eq ?_;congr 1;simp only [decide_eq_true_eq];omega) | (trace_state;sorry))
end Go.Ab.Td

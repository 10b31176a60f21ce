/- A part of the proof: the texts TdRu. Under: nothing. -/
import Derived.Test.YtngmifmcohmfmaaDoorG27
namespace Go.Ab.Td
set_option maxRecDepth 100000
set_option maxRecDepth 100000
open Go Go.Ab
variable {P:Program}
set_option linter.unusedSimpArgs false
attribute [local irreducible] f0
theorem a1m {h:List Cl} (hs:small h):big h:=⟨by have:=hs.1;omega,fun c hc=>by obtain ⟨h1,h2,h3,h4⟩:=hs.2 c hc;exact ⟨by omega,by omega,by omega⟩⟩
set_option maxHeartbeats 8000000 in
theorem a9l (C:Laid P) (cells ops e9:List (List PV)) (hc:∀ r ∈ cells,a4P r) (ho:∀ r ∈ ops,a4P r) (hd:∀ r ∈ e9,∃ D,r=[.int .u8 D]∧0≤D∧D<256) (l:List (Int × Wd)) (hl:∀ p ∈ l,0≤p.1∧p.1<256):j7 P G a1E [.agg [.sl 5 cells,.sl 5 ops,.sl 1 e9],.sl 6 (l.map b3p)] [] (.bool true):=by
 refine i5 C (b0O C) rfl ?_
 obtain ⟨s,⟨hst,hv,hk12⟩,kst⟩:=b8I C cells ops e9 hc ho hd
 have kS0:=b2y C cells ops e9 s kst
 obtain ⟨hsi,hsx⟩:=c3O hst hv hk12
 obtain ⟨s0,hs0⟩:∃ s0:F2,s0={s with f45:=1}:=⟨_,rfl⟩
 rw [← hs0] at kS0 hsi hsx
 clear hs0 hst hv hk12
 have kCut:=b6j C l
 obtain ⟨L,hL⟩:∃ L,L=l.take (60:Int).toNat:=⟨_,rfl⟩
 rw [← hL] at kCut
 have hLl:L.length≤60:=by rw [hL,show (60:Int).toNat=60 from rfl,List.length_take];omega
 have hLw:∀ p ∈ L,0≤p.1∧p.1<256:=fun p hp=>hl p (by rw [hL] at hp;exact List.mem_of_mem_take hp)
 clear hL hl
 repeat' ((conv=>whnf);first | (with_reducible refine sC (by kernel_rfl) ?_) | ((first | (with_reducible first | refine sB ?_ | refine o8 ?_ | refine o7 ?_) | refine sP (by rfl) ?_);first | refine oT ?_ | refine oF ?_ | (refine Or.inr (Or.inr ⟨fun hsp=>?_,fun hsp=>?_⟩) <;>(try simp only [nm,List.length_map] at hsp) <;>try subst hsp)) | refine ⟨_,_,TdW19.ok C,?_⟩ | refine ⟨_,_,kS0,?_⟩ | refine ⟨_,_,kCut,?_⟩ | fail)
 all_goals (conv=>whnf)
 intro X hX hW
 refine a2x hX (fun st (a:Nat × F2)=>st.upd [(19,.pv (pI (a.1:Int)))] [(24,.box 67 [(c6J a.2).map .pv] false)]) (fun a k=>a.1+k=L.length∧SX a.2∧∃ sl ts,SI False a.1 a.2 sl ts) (0,s0) L.length (by (conv=>whnf);first | done | rfl) ⟨by simp,hsx,_,_,hsi⟩ ?_
 intro m a ih hI
 obtain ⟨i,t⟩:=a
 obtain ⟨hI1,sx,sl,ts,si⟩:=hI
 dsimp only at hI1 sx si
 rcases a0E L i with ⟨⟨w,x⟩,hlt,hx⟩ | hge
 ·have hrow:=y2 (f:=b3p) hx
  have hw:=hLw _ (List.mem_of_getElem? hx)
  dsimp only at hw
  have w1:IntKind.i64.wrap ((i:Int)+1)=((i+1:Nat):Int):=by rw [wrap_small (by omega) (by omega)];omega
  have hw0:=Int.tmod_nonneg 8 hw.1
  by_cases h3:3≤w.tmod 8
  ·obtain ⟨s2,si2,sub,kA⟩:=b7V C si w hw x h3
   have kN:=b5J C w x.K x.A x.B x.N x.S h3
   have sx2:SX s2:=fun p hp hk=>(sub p hp).elim (fun h=>sx p h hk) (fun h=>absurd hk h)
   repeat' ((conv=>whnf);first | (with_reducible refine sC (by kernel_rfl) ?_) | ((first | (with_reducible first | refine sB ?_ | refine o8 ?_ | refine o7 ?_) | refine sP (by rfl) ?_);first | refine oT ?_ | refine oF ?_ | (refine Or.inr (Or.inr ⟨fun hsp=>?_,fun hsp=>?_⟩) <;>(try simp only [nm,List.length_map] at hsp) <;>try subst hsp)) | refine ⟨_,_,kN,?_⟩ | refine ⟨_,_,kA,?_⟩ | refine sS (e7 (by rfl) (by rfl) (by omega) hrow) ?_ | fail)
   all_goals (conv=>whnf)
   all_goals (refine ih (m - 1) (i+1,s2) _ (by omega) ⟨by dsimp only;omega,sx2,_,_,si2.more (by omega)⟩ (by (conv=>whnf);first | done | rfl | (rw [w1];rfl) | (simp (disch:=omega) only [p9])))
  ·have hr:w.tmod 8=0∨w.tmod 8=1∨w.tmod 8=2:=by omega
   rcases hr with hr | hr | hr
   ·obtain ⟨t2,e,l2,ts2,si2,sx2,kb1,kb2⟩:=c4Y C si sx (by omega)
    have kN:=b5M C w x.K x.A x.B x.N x.S hr
    have kSS:=a0d C t2 l2 ts2 si2.h3 si2.h62 (a1m si2.sh.sm) (fun y hy=>by obtain ⟨q,hq⟩:=List.getElem?_of_mem hy;exact a1m (si2.sv q y hq).2.1.sm) (by have:=si2.ll;omega) (by have:=si2.ll;have:=si2.tl;omega) (by have:=si2.ol;omega) (by have:=si2.dl;omega)
    have kC:=kc0 C si2.sh.v (by have:=si2.sh.len;omega) si2.sh.nc
    repeat' ((conv=>whnf);first | (with_reducible refine sC (by kernel_rfl) ?_) | ((first | (with_reducible first | refine sB ?_ | refine o8 ?_ | refine o7 ?_) | refine sP (by rfl) ?_);first | refine oT ?_ | refine oF ?_ | (refine Or.inr (Or.inr ⟨fun hsp=>?_,fun hsp=>?_⟩) <;>(try simp only [nm,List.length_map] at hsp) <;>try subst hsp)) | refine ⟨_,_,kN,?_⟩ | refine ⟨_,_,kb1,?_⟩ | refine ⟨_,_,kb2,?_⟩ | refine ⟨_,_,kSS,?_⟩ | refine ⟨_,_,kC,?_⟩ | refine sS (e7 (by rfl) (by rfl) (by omega) hrow) ?_ | fail)
    all_goals (conv=>whnf)
    all_goals (refine ih (m - 1) (i+1,t2) _ (by omega) ⟨by dsimp only;omega,sx2,_,_,si2⟩ (by (conv=>whnf);first | done | rfl | (rw [w1];rfl) | (simp (disch:=omega) only [p9])))
   ·obtain ⟨t2,e,l2,ts2,si2,sx2,kb1,kb2⟩:=b8P C si sx
    have kN:=b1x C w x.K x.A x.B x.N x.S hr
    have kSS:=a0d C t2 l2 ts2 si2.h3 si2.h62 (a1m si2.sh.sm) (fun y hy=>by obtain ⟨q,hq⟩:=List.getElem?_of_mem hy;exact a1m (si2.sv q y hq).2.1.sm) (by have:=si2.ll;omega) (by have:=si2.ll;have:=si2.tl;omega) (by have:=si2.ol;omega) (by have:=si2.dl;omega)
    have kC:=kc0 C si2.sh.v (by have:=si2.sh.len;omega) si2.sh.nc
    repeat' ((conv=>whnf);first | (with_reducible refine sC (by kernel_rfl) ?_) | ((first | (with_reducible first | refine sB ?_ | refine o8 ?_ | refine o7 ?_) | refine sP (by rfl) ?_);first | refine oT ?_ | refine oF ?_ | (refine Or.inr (Or.inr ⟨fun hsp=>?_,fun hsp=>?_⟩) <;>(try simp only [nm,List.length_map] at hsp) <;>try subst hsp)) | refine ⟨_,_,kN,?_⟩ | refine ⟨_,_,kb1,?_⟩ | refine ⟨_,_,kb2,?_⟩ | refine ⟨_,_,kSS,?_⟩ | refine ⟨_,_,kC,?_⟩ | refine sS (e7 (by rfl) (by rfl) (by omega) hrow) ?_ | fail)
    all_goals (conv=>whnf)
    all_goals (refine ih (m - 1) (i+1,t2) _ (by omega) ⟨by dsimp only;omega,sx2,_,_,si2⟩ (by (conv=>whnf);first | done | rfl | (rw [w1];rfl) | (simp (disch:=omega) only [p9])))
   ·obtain ⟨t2,e,l2,ts2,si2,sx2,kb1,kb2⟩:=c7O C si sx
    have kN:=b0B C w x.K x.A x.B x.N x.S hr
    have kSS:=a0d C t2 l2 ts2 si2.h3 si2.h62 (a1m si2.sh.sm) (fun y hy=>by obtain ⟨q,hq⟩:=List.getElem?_of_mem hy;exact a1m (si2.sv q y hq).2.1.sm) (by have:=si2.ll;omega) (by have:=si2.ll;have:=si2.tl;omega) (by have:=si2.ol;omega) (by have:=si2.dl;omega)
    have kC:=kc0 C si2.sh.v (by have:=si2.sh.len;omega) si2.sh.nc
    repeat' ((conv=>whnf);first | (with_reducible refine sC (by kernel_rfl) ?_) | ((first | (with_reducible first | refine sB ?_ | refine o8 ?_ | refine o7 ?_) | refine sP (by rfl) ?_);first | refine oT ?_ | refine oF ?_ | (refine Or.inr (Or.inr ⟨fun hsp=>?_,fun hsp=>?_⟩) <;>(try simp only [nm,List.length_map] at hsp) <;>try subst hsp)) | refine ⟨_,_,kN,?_⟩ | refine ⟨_,_,kb1,?_⟩ | refine ⟨_,_,kb2,?_⟩ | refine ⟨_,_,kSS,?_⟩ | refine ⟨_,_,kC,?_⟩ | refine sS (e7 (by rfl) (by rfl) (by omega) hrow) ?_ | fail)
    all_goals (conv=>whnf)
    all_goals (refine ih (m - 1) (i+1,t2) _ (by omega) ⟨by dsimp only;omega,sx2,_,_,si2⟩ (by (conv=>whnf);first | done | rfl | (rw [w1];rfl) | (simp (disch:=omega) only [p9])))
 ·repeat' ((conv=>whnf);first | (with_reducible refine sC (by kernel_rfl) ?_) | ((first | (with_reducible first | refine sB ?_ | refine o8 ?_ | refine o7 ?_) | refine sP (by rfl) ?_);first | refine oT ?_ | refine oF ?_ | (refine Or.inr (Or.inr ⟨fun hsp=>?_,fun hsp=>?_⟩) <;>(try simp only [nm,List.length_map] at hsp) <;>try subst hsp)) | refine ⟨_,_,b7F C,?_⟩ | refine ⟨_,_,a0S C,?_⟩ | refine ⟨_,_,b5T C,?_⟩ | fail)
  all_goals (conv=>whnf)
  all_goals (exact PV.le.refl _)
end Go.Ab.Td

/- A part of the proof: the texts TdUk, TdW19, TdSf, TdRu0, TdRu1, TdRv0, TdUm, TdXe, TdXf, TdAr3, TdLaid. Under: nothing. -/
import Derived.Test.YtomfaadmmchdcaaDoorG48
import Derived.Test.YtomfaadmmchdcaaDoorG49
import Derived.Test.YtomfaadmmchdcaaDoorG07
import Derived.Test.YtomfaadmmchdcaaDoorG05
import Derived.KernelRfl
import Derived.Test.YtomfaadmmchdcaaDoorG44
import Derived.Test.YtomfaadmmchdcaaDoorG20
import Derived.Test.YtomfaadmmchdcaaDoorG47
import Derived.Test.YtomfaadmmchdcaaDoorG27
import Derived.Test.YtomfaadmmchdcaaDoorG28
import Derived.Test.YtomfaadmmchdcaaDoorG45
import Derived.Test.YtomfaadmmchdcaaDoorG43
import Derived.Test.YtomfaadmmchdcaaDoorG41
import Derived.Test.YtomfaadmmchdcaaDoorG06
import Derived.Test.YtomfaadmmchdcaaDoorChecked
set_option linter.unusedVariables false
namespace Go.Ab.Td
set_option maxRecDepth 100000
open Go Go.Ab
variable {P:Program}
set_option linter.unusedSimpArgs false
attribute [local irreducible] g8
end Go.Ab.Td
namespace Go.Ab.Td.TdW19
set_option maxRecDepth 100000
set_option maxRecDepth 100000
open Go Go.Ab Go.Ab.Td
variable {P:Program}
set_option linter.unusedSimpArgs false
def a1b:TF:=.nil
def c7E:List AV:=[.pv (.int .i64 (0)),.pv (.bool false),.pv (.int .i64 (0)),.pv (.str []),.pv (.int .i64 (0)),.pv (.int .i64 (0)),.pv (.int .i64 (0))]
def ext (g:Nat):Option a2f:=match Nat.beq g s7 with | true=>some (a7U 7 64) | false=>none
theorem c2M (_C:Laid P):a1b.all (f0 P)=true:=by simp only [a1b,TF.all,Bool.and_self]
theorem c0S:O0=a6m 7 64 c7E:=rfl
theorem b8s (C:Laid P):a3C P G fun g=>(ext g).map a5R:=by
 intro g h hg
 cases hb:Nat.beq g s7 with
 | true=>
   have:=Nat.eq_of_beq_eq_true hb
   subst this
   cases hg
   exact c0T C.mixed (by rw [← c0S];exact a0a C)
 | false=>
   have:ext g=none:=by unfold ext;rw [hb]
   simp only [this] at hg
   cases hg
theorem b1E:∀ g ps own r,kn0 g ps=some (own,r)→l8 P G g ps own r:=fun _ _ _ _ h=>by cases h
end Go.Ab.Td.TdW19
namespace Go.Ab.Td
set_option maxRecDepth 100000
open Go Go.Ab
variable {P:Program}
set_option linter.unusedSimpArgs false
attribute [local irreducible] g8
end Go.Ab.Td
namespace Go.Ab.Td
set_option maxRecDepth 100000
open Go Go.Ab
variable {P:Program}
set_option linter.unusedSimpArgs false
attribute [local irreducible] g8
end Go.Ab.Td
namespace Go.Ab.Td
set_option maxRecDepth 100000
open Go Go.Ab
variable {P:Program}
set_option linter.unusedSimpArgs false
attribute [local irreducible] g8
end Go.Ab.Td
namespace Go.Ab.Td
set_option maxRecDepth 100000
open Go Go.Ab
variable {P:Program}
set_option linter.unusedSimpArgs false
attribute [local irreducible] g8
end Go.Ab.Td
namespace Go.Ab.Td
set_option maxRecDepth 100000
open Go Go.Ab
variable {P:Program}
set_option linter.unusedSimpArgs false
section
variable (C:Laid P) {F:Prop} {m:Nat} {s:C3} {l:List Sn} {ts:List C3} (t:SI F m s l ts) (sx:SX s)
include C t sx
end
end Go.Ab.Td
namespace Go.Ab.Td
set_option maxRecDepth 100000
set_option maxRecDepth 100000
open Go Go.Ab
variable {P:Program}
set_option linter.unusedSimpArgs false
attribute [local irreducible] g8
theorem c1B {c:Int} {o:Ob} (h:o ∈ b1j c):∃ x:List UInt8,o=W4 x∧x.length≤100:=by
 unfold b1j at h
 split at h
 ·simp only [List.mem_singleton] at h
  refine ⟨_,h,?_⟩
  cases hx:pcL[(c.tmod 8).toNat]? with
  | none=>simp
  | some x=>
    have hm:=List.mem_of_getElem? hx
    simp only [pcL,b0S,List.cons_append,List.nil_append,List.mem_cons,List.not_mem_nil,or_false] at hm
    rcases hm with rfl | rfl | rfl | rfl | rfl | rfl | rfl <;>simp
 ·simp at h
theorem c1A (c:Int):(b1j c).length≤1:=by unfold b1j;split <;>simp
theorem c0v (h:List Cl) (l:List Wd):(b6U h l).length≤3:=by unfold b6U;rw [List.length_map,List.length_take,show (3:Int).toNat=3 from rfl];omega
theorem c3k {s:C3} (hst:c0H s) (hv:a2r s.heap) (hf:∀ o ∈ s.ops,fits s.heap o) (l:List Wd) (c:Int):RS (a9u s l c):=by
 obtain ⟨ops,j8,heap,rfl,hh,h20,hn, -⟩:=hst
 have hi:=a1P.hi hh
 have mem:∀ o ∈ (a9u (mkS ops j8 heap) l c).ops,fits heap o∧o.n<9223372036854775808:=by
  intro o ho
  rcases List.mem_append.1 (show o ∈ (ops++b6U heap l)++b1j c from ho) with ho | ho
  ·rcases List.mem_append.1 ho with ho | ho
   ·exact ⟨hf o ho,hn o ho⟩
   ·obtain ⟨w, -,rfl⟩:=List.mem_map.1 ho
    exact ⟨a8T hh w.K w.A w.B w.N w.hA w.hB w.hN,c1t heap w.K w.A w.B w.N w.hA w.hN⟩
  ·obtain ⟨x,rfl,hx⟩:=c1B ho
   exact ⟨b8t hx,by show (0:Int)<_;decide⟩
 have hl:(a9u (mkS ops j8 heap) l c).ops.length≤24:=by
  show ((ops++b6U heap l)++b1j c).length≤24
  have:=c1A c
  have:=c0v heap l
  simp only [List.length_append]
  omega
 exact ⟨⟨hi.small (by decide),by omega,fun o ho=>(mem o ho).2,hi.p8⟩,hv.rh,fun o ho=>(mem o ho).1,by omega⟩
theorem b2S (C:Laid P) {u:C3} (h3:u.f3=[]) (h62:u.f62=[]) (hb:big u.heap) (ho:u.ops.length≤1000000) (hd:u.j8.length≤1000000):l8 P G x2 [aS u,aS u] [] (.bool true):=a8g C u [] [] (by rw [h3];rfl) (by rw [h62];rfl) hb (by simp) (by simp) (by simp) ho hd
end Go.Ab.Td
namespace Go.Ab.Td
set_option maxRecDepth 100000
set_option maxRecDepth 100000
open Go Go.Ab
variable {P:Program}
set_option linter.unusedSimpArgs false
attribute [local irreducible] g8
set_option maxHeartbeats 8000000 in
theorem ok_law18_ResourceStays (C:Laid P) (cells ops j8:List (List PV)) (hc:∀ r ∈ cells,a4A r) (ho:∀ r ∈ ops,a4A r) (hd:∀ r ∈ j8,∃ D,r=[.int .u8 D]∧0≤D∧D<256) (l:List Wd) (c:Int) (hcc:0≤c∧c<256) (op:List UInt8):l8 P G n_law18_ResourceStays [.agg [.sl 5 cells,.sl 5 ops,.sl 1 j8],.sl 5 (l.map Wd.row),.int .u8 c,.str op] [] (.bool true):=by
 refine j3 C (k_law18_ResourceStays C) rfl ?_
 obtain ⟨s,⟨hst,hv, -,hf, -, -⟩,kst⟩:=b7y C cells ops j8 hc ho hd
 have hRS:=c3k hst hv hf l c
 have hs:=hRS.n.1
 obtain ⟨h3,h62,hdl,hol⟩:(a9u s l c).f3=[]∧(a9u s l c).f62=[]∧(a9u s l c).j8.length≤6∧s.ops.length≤20:=by
  obtain ⟨_,_,_,rfl, -,h20, -, -,h6, -⟩:=hst
  exact ⟨rfl,rfl,h6,h20⟩
 have kP:=b6x C cells ops j8 l c hcc s kst (by exact hs) hol
 clear hst hv hf kst
 obtain ⟨S,hS⟩:∃ S,S=a9u s l c:=⟨_,rfl⟩
 rw [← hS] at hRS hs h3 h62 hdl kP
 clear hS
 obtain ⟨T,e,hRO,kA,kB⟩:=c0M C hRS op
 have hSl:=hRS.ol
 have kSS:=b2S C h3 h62 (b0n hs) (by omega) (by omega)
 have kST:l8 P G x2 [aS T,aS T] [] (.bool true):=by
  rcases hRO with ⟨-,rfl⟩ | ⟨-,l',h',rfl,hl', -,hh, -⟩
  ·exact kSS
  ·refine b2S C h3 h62 ?_ (by show l'.length≤_;omega) (by show S.j8.length≤_;omega)
   rcases hh with rfl | ⟨j,c',rfl,hb⟩
   ·exact b0n hs
   ·exact c2S (b0n hs) hb
 clear hc ho hd
 rcases hRO with ⟨he,hT⟩ | ⟨he,l',h',hT,hl', -,hh, -⟩
 ·rw [hT] at kA
  repeat' ((conv=>whnf);first | (with_reducible refine sC (by kernel_rfl) ?_) | ((first | (with_reducible first | refine sB ?_ | refine x4 ?_ | refine x5 ?_) | refine sP (by rfl) ?_);first | refine oT ?_ | refine oF ?_ | (refine Or.inr (Or.inr ⟨fun hsp=>?_,fun hsp=>?_⟩) <;>(try simp only [nm,List.length_map] at hsp) <;>try subst hsp)) | refine ⟨_,_,TdW18.ok C,?_⟩ | refine ⟨_,_,kP,?_⟩ | refine ⟨_,_,kA,?_⟩ | refine ⟨_,_,kSS,?_⟩ | fail)
  all_goals (conv=>whnf)
  all_goals (first | exact PV.le.refl _ | (trace_state;sorry))
 ·subst he
  obtain ⟨jx,hjx⟩:∃ jx:Nat,∀ k,k≠jx→h'[k]?=S.heap[k]?:=by
   rcases hh with rfl | ⟨j,c',rfl, -⟩
   ·exact ⟨0,fun _ _=>rfl⟩
   ·exact ⟨j,fun k hk=>List.getElem?_set_ne (fun e=>hk e.symm)⟩
  have hlh:h'.length=S.heap.length:=by
   rcases hh with rfl | ⟨j,c',rfl, -⟩
   ·rfl
   ·rw [List.length_set]
  have hbig:∀ c ∈ h',b7e c:=by
   rcases hh with rfl | ⟨j,c',rfl,hb⟩
   ·exact fun c hc=>(b0n hs).2 c hc
   ·exact (c2S (b0n hs) hb).2
  have hsl:S.heap.length≤20:=hRS.rh.len.2
  have To:T.ops=l':=by rw [hT]
  have Th:T.heap=h':=by rw [hT]
  have hTS:aS {T with ops:=S.ops,heap:=S.heap}=aS S:=by rw [hT]
  clear hT hh kST kB
  repeat' ((conv=>whnf);first | (with_reducible refine sC (by kernel_rfl) ?_) | ((first | (with_reducible first | refine sB ?_ | refine x4 ?_ | refine x5 ?_) | refine sP (by rfl) ?_);first | refine oT ?_ | refine oF ?_ | (refine Or.inr (Or.inr ⟨fun hsp=>?_,fun hsp=>?_⟩) <;>(try simp only [nm,List.length_map] at hsp) <;>try subst hsp)) | refine ⟨_,_,TdW18.ok C,?_⟩ | refine ⟨_,_,kP,?_⟩ | refine ⟨_,_,kA,?_⟩ | fail)
  all_goals (conv=>whnf)
  intro X hX hW
  refine a7C hX (fun st (a:Nat × Int)=>st.upd [(35,.pv (pI (a.1:Int))),(12,.pv (pI a.2))] []) (fun a k=>a.1+k=S.heap.length∧(a.2=0∨(a.2=1∧jx<a.1))) (0,0) S.heap.length (by (conv=>whnf);first | done | rfl) ⟨by simp,.inl rfl⟩ ?_
  intro m a ih hI
  obtain ⟨i,d⟩:=a
  obtain ⟨hI1,hI2⟩:=hI
  dsimp only at hI1 hI2
  have w1:IntKind.i64.wrap ((i:Int)+1)=((i+1:Nat):Int):=by rw [wrap_small (by omega) (by omega)];omega
  have w2:IntKind.i64.wrap (d+1)=d+1:=wrap_small (by omega) (by omega)
  have tl:(List.map j6 T.heap).length=(List.map j6 S.heap).length:=by rw [List.length_map,List.length_map,Th,hlh]
  rcases a7o S.heap i with ⟨c2,hlt,hx2⟩ | hge
  ·obtain ⟨c1,hx1⟩:∃ c1,T.heap[i]?=some c1:=⟨_,List.getElem?_eq_getElem (by rw [Th,hlh];omega)⟩
   have hrow1:=Y5 (f:=j6) hx1
   have hrow2:=Y5 (f:=j6) hx2
   have kC:=a3T C c1 c2 (hbig c1 (by rw [← Th];exact List.mem_of_getElem? hx1))
   by_cases hc:c1=c2
   ·rw [v5.mpr hc] at kC
    repeat' ((conv=>whnf);first | (with_reducible refine sC (by kernel_rfl) ?_) | ((first | (with_reducible first | refine sB ?_ | refine x4 ?_ | refine x5 ?_) | refine sP (by rfl) ?_);first | refine Or.inl ⟨by first | assumption | (simp only [nm,tl,List.length_map];first | done | assumption | omega),?_⟩ | refine Or.inr (Or.inl ⟨by first | assumption | (simp only [nm,tl,List.length_map];first | done | assumption | omega),?_⟩) | (refine Or.inr (Or.inr ⟨fun hsp=>?_,fun hsp=>?_⟩) <;>(try simp only [nm,tl,List.length_map] at hsp) <;>try subst hsp)) | refine ⟨_,_,kC,?_⟩ | refine sS (e9 (by rfl) (by rfl) (by omega) hrow1) ?_ | refine sS (e9 (by rfl) (by rfl) (by omega) hrow2) ?_ | fail)
    all_goals (conv=>whnf)
    all_goals (refine ih (m - 1) (i+1,d) _ (by omega) ⟨by dsimp only;omega,by dsimp only;omega⟩ (by (conv=>whnf);first | done | rfl | (rw [w1];first | done | rfl)))
   ·rw [a3x.mpr hc] at kC
    have hij:i=jx:=by
     by_cases h:i=jx
     ·exact h
     ·have:=hjx i h
      rw [← Th,hx1,hx2] at this
      exact absurd (Option.some.inj this) hc
    have hd0:d=0:=by omega
    repeat' ((conv=>whnf);first | (with_reducible refine sC (by kernel_rfl) ?_) | ((first | (with_reducible first | refine sB ?_ | refine x4 ?_ | refine x5 ?_) | refine sP (by rfl) ?_);first | refine Or.inl ⟨by first | assumption | (simp only [nm,tl,List.length_map];first | done | assumption | omega),?_⟩ | refine Or.inr (Or.inl ⟨by first | assumption | (simp only [nm,tl,List.length_map];first | done | assumption | omega),?_⟩) | (refine Or.inr (Or.inr ⟨fun hsp=>?_,fun hsp=>?_⟩) <;>(try simp only [nm,tl,List.length_map] at hsp) <;>try subst hsp)) | refine ⟨_,_,kC,?_⟩ | refine sS (e9 (by rfl) (by rfl) (by omega) hrow1) ?_ | refine sS (e9 (by rfl) (by rfl) (by omega) hrow2) ?_ | fail)
    all_goals (conv=>whnf)
    all_goals (refine ih (m - 1) (i+1,d+1) _ (by omega) ⟨by dsimp only;omega,by dsimp only;omega⟩ (by (conv=>whnf);first | done | rfl | (rw [w1,w2];first | done | rfl)))
  ·have hd1:d≤1:=by omega
   have kSS:l8 P G x2 [aS {T with ops:=S.ops,heap:=S.heap},aS S] [] (.bool true):=by rw [hTS];exact kSS
   repeat' ((conv=>whnf);first | (with_reducible refine sC (by kernel_rfl) ?_) | ((first | (with_reducible first | refine sB ?_ | refine x4 ?_ | refine x5 ?_) | refine sP (by rfl) ?_);first | refine Or.inl ⟨by first | assumption | (simp only [nm,List.length_map,To];first | done | assumption | omega),?_⟩ | refine Or.inr (Or.inl ⟨by first | assumption | (simp only [nm,List.length_map,To];first | done | assumption | omega),?_⟩) | (refine Or.inr (Or.inr ⟨fun hsp=>?_,fun hsp=>?_⟩) <;>(try simp only [nm,List.length_map,To] at hsp) <;>try subst hsp)) | refine ⟨_,_,kSS,?_⟩ | fail)
   all_goals (conv=>whnf)
   all_goals (refine le_of_eq ?_;congr 1;rw [List.length_map,List.length_map,To,decide_eq_true_eq];omega)
end Go.Ab.Td
namespace Go.Ab.Td
set_option maxRecDepth 100000
set_option maxRecDepth 100000
open Go Go.Ab Go.ChangeShapes
theorem c5n {p:PV} (h:a9I (false,[.sl a8r]) p):∃ l:List Wd,p= .sl 5 (l.map Wd.row):=by
 obtain ⟨qs,e,hl,h⟩:=h
 simp only [a8H] at e
 subst e
 have k:=h 0 _ _ rfl rfl
 cases k with
 | sl w g=>
   obtain ⟨l,rfl,_⟩:=b8u (Q:=fun _=>True) (fun qs h=>by obtain ⟨w,e⟩:=c4F h;exact ⟨w,e,trivial⟩) _ w g
   exact ⟨l,rfl⟩
end Go.Ab.Td
namespace Go.Ab.Td
set_option maxRecDepth 100000
set_option maxRecDepth 100000
open Go Go.Ab Go.Proofs
theorem laid:Laid Tryd.prog:=⟨by kernel_rfl,by kernel_rfl,by kernel_rfl,by kernel_rfl,by kernel_rfl⟩
end Go.Ab.Td

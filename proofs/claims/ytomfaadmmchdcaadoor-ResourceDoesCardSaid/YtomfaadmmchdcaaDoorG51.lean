/- A part of the proof: the texts TdXe. Under: nothing. -/
import Derived.Test.YtomfaadmmchdcaaDoorG43
import Derived.Test.YtomfaadmmchdcaaDoorG47
import Derived.Test.YtomfaadmmchdcaaDoorG44
import Derived.Test.YtomfaadmmchdcaaDoorG50
set_option linter.unusedVariables false
namespace Go.Ab.Td
set_option maxRecDepth 100000
set_option maxRecDepth 100000
open Go Go.Ab
variable {P:Program}
set_option linter.unusedSimpArgs false
attribute [local irreducible] g8
set_option maxHeartbeats 1000000 in
theorem b1f (C:Laid P):l8 P G a0Q [] [] (.sl 1 (k7.map fun x=>[PV.str x])):=by
 refine j3 C (b2m C) rfl ?_
 repeat' ((conv=>whnf);first | (with_reducible refine sC (by kernel_rfl) ?_) | ((first | (with_reducible first | refine sB ?_ | refine x4 ?_ | refine x5 ?_) | refine sP (by rfl) ?_);first | refine oT ?_ | refine oF ?_ | (refine Or.inr (Or.inr ⟨fun hsp=>?_,fun hsp=>?_⟩) <;>(try simp only [nm] at hsp) <;>try subst hsp)) | fail)
 all_goals (conv=>whnf)
 all_goals (exact PV.le.refl _)
theorem c1B {c:Int} {o:Ob} (h:o ∈ b1j c):∃ x:List UInt8,o=W4 x∧x.length≤100:=by
 unfold b1j at h
 split at h
 ·simp only [List.mem_singleton] at h
  refine ⟨_,h,?_⟩
  cases hx:pcL[(c.tmod 8).toNat]? with
  | none=>simp
  | some x=>
    have hm:=List.mem_of_getElem? hx
    simp only [pcL,b0S,List.cons_append,List.nil_append,List.mem_cons,List.not_mem_nil,or_false] at hm
    rcases hm with rfl | rfl | rfl | rfl | rfl | rfl | rfl <;>simp
 ·simp at h
theorem c1A (c:Int):(b1j c).length≤1:=by unfold b1j;split <;>simp
theorem c0v (h:List Cl) (l:List Wd):(b6U h l).length≤3:=by unfold b6U;rw [List.length_map,List.length_take,show (3:Int).toNat=3 from rfl];omega
theorem c3k {s:C3} (hst:c0H s) (hv:a2r s.heap) (hf:∀ o ∈ s.ops,fits s.heap o) (l:List Wd) (c:Int):RS (a9u s l c):=by
 obtain ⟨ops,j8,heap,rfl,hh,h20,hn, -⟩:=hst
 have hi:=a1P.hi hh
 have mem:∀ o ∈ (a9u (mkS ops j8 heap) l c).ops,fits heap o∧o.n<9223372036854775808:=by
  intro o ho
  rcases List.mem_append.1 (show o ∈ (ops++b6U heap l)++b1j c from ho) with ho | ho
  ·rcases List.mem_append.1 ho with ho | ho
   ·exact ⟨hf o ho,hn o ho⟩
   ·obtain ⟨w, -,rfl⟩:=List.mem_map.1 ho
    exact ⟨a8T hh w.K w.A w.B w.N w.hA w.hB w.hN,c1t heap w.K w.A w.B w.N w.hA w.hN⟩
  ·obtain ⟨x,rfl,hx⟩:=c1B ho
   exact ⟨b8t hx,by show (0:Int)<_;decide⟩
 have hl:(a9u (mkS ops j8 heap) l c).ops.length≤24:=by
  show ((ops++b6U heap l)++b1j c).length≤24
  have:=c1A c
  have:=c0v heap l
  simp only [List.length_append]
  omega
 exact ⟨⟨hi.small (by decide),by omega,fun o ho=>(mem o ho).2,hi.p8⟩,hv.rh,fun o ho=>(mem o ho).1,by omega⟩
theorem b2S (C:Laid P) {u:C3} (h3:u.f3=[]) (h62:u.f62=[]) (hb:big u.heap) (ho:u.ops.length≤1000000) (hd:u.j8.length≤1000000):l8 P G x2 [aS u,aS u] [] (.bool true):=a8g C u [] [] (by rw [h3];rfl) (by rw [h62];rfl) hb (by simp) (by simp) (by simp) ho hd
set_option maxHeartbeats 8000000 in
theorem a5V (C:Laid P) (cells ops j8:List (List PV)) (hc:∀ r ∈ cells,a4A r) (ho:∀ r ∈ ops,a4A r) (hd:∀ r ∈ j8,∃ D,r=[.int .u8 D]∧0≤D∧D<256) (l:List Wd) (c:Int) (hcc:0≤c∧c<256) (op:List UInt8):l8 P G T0 [.agg [.sl 5 cells,.sl 5 ops,.sl 1 j8],.sl 5 (l.map Wd.row),.int .u8 c,.str op] [] (.bool true):=by
 refine j3 C (a6w C) rfl ?_
 obtain ⟨s,⟨hst,hv, -,hf, -, -⟩,kst⟩:=b7y C cells ops j8 hc ho hd
 have hRS:=c3k hst hv hf l c
 have hs:=hRS.n.1
 obtain ⟨h3,h62,hdl,hol⟩:(a9u s l c).f3=[]∧(a9u s l c).f62=[]∧(a9u s l c).j8.length≤6∧s.ops.length≤20:=by
  obtain ⟨_,_,_,rfl, -,h20, -, -,h6, -⟩:=hst
  exact ⟨rfl,rfl,h6,h20⟩
 have kP:=b6x C cells ops j8 l c hcc s kst (by exact hs) hol
 clear hst hv hf kst
 obtain ⟨S,hS⟩:∃ S,S=a9u s l c:=⟨_,rfl⟩
 rw [← hS] at hRS hs h3 h62 hdl kP
 clear hS
 obtain ⟨T,e,hRO,kA,kB⟩:=c0M C hRS op
 have hSl:=hRS.ol
 have kSS:=b2S C h3 h62 (b0n hs) (by omega) (by omega)
 have kST:l8 P G x2 [aS T,aS T] [] (.bool true):=by
  rcases hRO with ⟨-,rfl⟩ | ⟨-,l',h',rfl,hl', -,hh, -⟩
  ·exact kSS
  ·refine b2S C h3 h62 ?_ (by show l'.length≤_;omega) (by show S.j8.length≤_;omega)
   rcases hh with rfl | ⟨j,c',rfl,hb⟩
   ·exact b0n hs
   ·exact c2S (b0n hs) hb
 clear hc ho hd
 have kE:l8 P G C7 [.sl 1 (k7.map fun x=>[PV.str x]),.sl 1 (k7.map fun x=>[PV.str x])] [] (.bool true):=b9E C k7 (by decide)
 repeat' ((conv=>whnf);first | (with_reducible refine sC (by kernel_rfl) ?_) | ((first | (with_reducible first | refine sB ?_ | refine x4 ?_ | refine x5 ?_) | refine sP (by rfl) ?_);first | refine oT ?_ | refine oF ?_ | (refine Or.inr (Or.inr ⟨fun hsp=>?_,fun hsp=>?_⟩) <;>(try simp only [nm] at hsp) <;>try subst hsp)) | refine ⟨_,_,TdW18.ok C,?_⟩ | refine ⟨_,_,kP,?_⟩ | refine ⟨_,_,kA,?_⟩ | refine ⟨_,_,kB,?_⟩ | refine ⟨_,_,kST,?_⟩ | refine ⟨_,_,kSS,?_⟩ | refine ⟨_,_,b1f C,?_⟩ | refine ⟨_,_,n4 C,?_⟩ | refine ⟨_,_,kE,?_⟩ | fail)
 all_goals (conv=>whnf)
 all_goals (first | exact PV.le.refl _ | (trace_state;sorry))
end Go.Ab.Td

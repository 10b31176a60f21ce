/- A part of the proof: the texts TdUl, TdW18, TdL. Under: nothing. -/
import Derived.Test.YtngmifmcohmfmaaDoorG18
import Derived.Test.YtngmifmcohmfmaaDoorG23
import Derived.Test.YtngmifmcohmfmaaDoorG24
import Derived.Test.YtngmifmcohmfmaaDoorG07
import Derived.Test.YtngmifmcohmfmaaDoorG05
import Derived.KernelRfl
import Derived.Test.YtngmifmcohmfmaaDoorG15
namespace Go.Ab.Td
set_option maxRecDepth 100000
set_option maxRecDepth 100000
open Go Go.Ab
variable {P:Program}
set_option linter.unusedSimpArgs false
def SX (s:F2):Prop:=∀ o ∈ s.ops,o.kind=12→o=svO o.n
theorem b4J (n:Int):∀ (l:List Sn) (s:Nat),plF n s l= -1∨∃ (i:Nat) (x:Sn),plF n s l=((s+i:Nat):Int)∧l[i]?=some x
 | [],_=>.inl rfl
 | y::l,s=>by
   unfold plF
   by_cases h:y.n=n
   ·rw [if_pos h];exact .inr ⟨0,y,rfl,rfl⟩
   ·rw [if_neg h]
    rcases b4J n l (s+1) with e | ⟨i,x,e,hx⟩
    ·exact .inl e
    ·exact .inr ⟨i+1,x,by rw [e];congr 1;omega,by simpa using hx⟩
def c7K (P:Program) (op:List UInt8) (s t:F2) (e:Int):Prop:=j7 P G G2 [aS s,.str op] [] (.x8 [aS t,pI e])∧j7 P G A0 [aS s,.str op] [] (.x8 [aS t,pI e])
def Next (P:Program) (F:Prop) (m:Nat) (op:List UInt8) (s:F2):Prop:=∃ (t:F2) (e:Int) (l:List Sn) (ts:List F2),SI F (m+1) t l ts∧SX t∧c7K P op s t e
section
variable (C:Laid P) {F:Prop} {m:Nat} {s:F2} {l:List Sn} {ts:List F2} (t:SI F m s l ts) (sx:SX s)
include C t sx
theorem c4Y (hm:m<1000000):Next P F m [115,97,118,101] s:=by
 have e3:s.f3.length=l.length:=by rw [t.h3,List.length_map]
 have e62:s.f62.length=l.length:=by rw [t.h62,List.length_map,t.tl]
 by_cases h10:10≤l.length
 ·exact ⟨s,26,l,ts,t.more (by omega),sx,a3y C s s 26 (b6P C s (.inl (by omega))),b1D C s (.inl (by omega))⟩
 ·by_cases ho:s.ops.length<100
  ·refine ⟨svS s,0,_,_,t.save hm (by omega) ho,fun o hx hk=>?_,a3y C s _ 0 (a7I C s (by omega) (by omega) ho),b7c C s l ts t.h3 t.h62 (by omega) (by have:=t.tl;omega) ho⟩
   rcases List.mem_append.1 (show o ∈ s.ops++[svO (IntKind.i64.wrap (s.f4+1))] from hx) with hx | hx
   ·exact sx o hx hk
   ·simp only [List.mem_singleton] at hx;subst hx;rfl
  ·have:=t.ol
   exact ⟨s,21,l,ts,t.more (by omega),sx,a3y C s s 21 (b6r C s (by omega) (by omega) (by omega) (by omega)),b0n C s l ts t.h3 t.h62 (by omega) (by have:=t.tl;omega) (by omega) (by omega)⟩
theorem c7O:Next P F m [118,109,115,116,97,116,117,115] s:=by
 have hl:=t.sh.len
 have ol:=t.ol
 by_cases ho:s.ops.length≤97
 ·have e3:s.f3.length=l.length:=by rw [t.h3,List.length_map]
  have ll:=t.ll
  have tot:=t.sh.tot
  have hv:=t.sh.v.2
  have mem:∀ p ∈ s.ops++vmL s,p ∈ s.ops∨∃ n:Int,p=⟨3,false,n,[],0,0,0⟩∧0≤n∧n≤20000:=by
   intro p hp
   rcases List.mem_append.1 hp with hp | hp
   ·exact .inl hp
   ·simp only [vmL,List.mem_cons,List.not_mem_nil,or_false] at hp
    rcases hp with rfl | rfl | rfl
    ·exact .inr ⟨_,rfl,by omega,by omega⟩
    ·exact .inr ⟨_,rfl,by omega,by omega⟩
    ·exact .inr ⟨_,rfl,by omega,by omega⟩
  refine ⟨{s with ops:=s.ops++vmL s},0,l,ts,(t.b5P (ops:=s.ops++vmL s) (by rw [List.length_append];show s.ops.length+3≤100;omega) (fun hF p hp=>?_) (fun p hp=>?_)).more (by omega),fun p hp hk=>?_,a9o C s _ 0 (c7H C s (by omega) ho),c1E C s (by omega) ho⟩
  ·rcases mem p hp with hp | ⟨n,rfl,h0,h1⟩
   ·exact t.of' hF p hp
   ·exact fits_int (by omega) (by omega) false
  ·rcases mem p hp with hp | ⟨n,rfl,h0,h1⟩
   ·exact t.on p hp
   ·dsimp only;omega
  ·rcases mem p hp with hp | ⟨n,rfl,h0,h1⟩
   ·exact sx p hp hk
   ·simp at hk
 ·exact ⟨s,21,l,ts,t.more (by omega),sx,a9o C s s 21 (b8O C s (by omega) (by omega) (by omega)),b3A C s (by omega) (by omega) (by omega)⟩
theorem b8P:Next P F m [114,101,115,116,111,114,101] s:=by
 have a0g:∀ e:Int,c7K P [114,101,115,116,111,114,101] s s e→Next P F m [114,101,115,116,111,114,101] s:=fun e h=>⟨s,e,l,ts,t.more (by omega),sx,h⟩
 have ll:=t.ll
 rcases List.eq_nil_or_concat s.ops with h0 | ⟨lo,o,hop⟩
 ·exact a0g 20 ⟨E0 C s s 20 (b0h C s h0),b6f C s h0⟩
 ·rw [List.concat_eq_append] at hop
  have ol:=t.ol
  rw [hop] at ol
  simp at ol
  have hom:o ∈ s.ops:=by rw [hop];simp
  by_cases hk:o.kind=12
  ·have ho:=sx o hom hk
   have hopn:s.ops=lo++[svO o.n]:=by rw [← ho];exact hop
   rcases b4J o.n l 0 with e | ⟨i,x,e,hx⟩
   ·exact a0g 34 ⟨E0 C s s 34 (b4l C s l lo o.n hopn t.h3 (by omega) (by omega) (by omega)),c0s C s lo o hop (by omega) l t.h3 (by omega) hk (by omega)⟩
   ·rw [Nat.zero_add] at e
    obtain ⟨xn,xh,xs⟩:=x
    obtain ⟨hst, -, -⟩:=t.sv i _ hx
    dsimp only at hst
    subst hst
    have hi:=(List.getElem?_eq_some_iff.1 hx).1
    obtain ⟨g,hg⟩:∃ g,ts[i]?=some g:=⟨_,List.getElem?_eq_getElem (by have:=t.tl;omega)⟩
    have hg2:s.f62[i]?=some (grO g):=by rw [t.h62,List.getElem?_map,hg];rfl
    have dl:=t.dl
    by_cases hnw:∃ o ∈ lo,o4 xh.length o
    ·exact a0g 34 ⟨E0 C s s 34 (a9d C s lo o hop (by omega) l t.h3 (by omega) o.n ho (by omega) i xn xh i e hx hnw),b4r C s lo o hop (by omega) l t.h3 (by omega) o.n ho (by omega) i xn xh i e hx hnw⟩
    ·by_cases hnd:∃ o ∈ s.e9,o4 xh.length o
     ·exact a0g 34 ⟨E0 C s s 34 (a9J C s lo o hop (by omega) l t.h3 (by omega) o.n ho (by omega) i xn xh i e hx hnw hnd),b3T C s lo o hop (by omega) l t.h3 (by omega) o.n ho (by omega) i xn xh i e hx hnw hnd⟩
     ·refine ⟨rsS s lo xh g i i,0,l.take i,ts.take i,(t.restore hop hx g hnw hnd).more (by omega),fun p hp hk=>?_,E0 C s _ 0 (b3a C s l lo o.n hopn t.h3 (by omega) (by omega) (by omega) i i e xn xh hx g hg2 hnw hnd),b8J C s lo o hop (by omega) (by omega) l t.h3 (by omega) o.n ho (by omega) i xn xh i e hx g hg2 hnw hnd⟩
      exact sx p (by rw [hop];exact List.mem_append_left _ hp) hk
  ·exact a0g 22 ⟨E0 C s s 22 (b1F C s lo o hop (by omega) hk),b6N C s lo o hop (by omega) hk⟩
end
end Go.Ab.Td
namespace Go.Ab.Td.TdW18
set_option maxRecDepth 100000
set_option maxRecDepth 100000
open Go Go.Ab Go.Ab.Td
variable {P:Program}
set_option linter.unusedSimpArgs false
def a0C:TF:=(.node (.node (.node (.node (.node (.node (.node (.leaf B4 I3) (.node (.leaf T8 a4m) (.leaf H4 a0V))) .nil) (.node (.node (.leaf P5 a2X) (.leaf Q3 a2t)) (.leaf y6 B9))) (.node (.node (.node (.leaf l8 P2) (.leaf q9 G5)) (.leaf n6 T3)) (.node .nil (.node (.leaf u4 H6) (.leaf X6 a4q))))) (.node (.node (.leaf G4 T0) (.leaf G1 V2)) (.node (.leaf o3 N4) (.node (.leaf O1 a4e) (.node (.node (.leaf P3 a2T) (.leaf C2 G9)) (.leaf K6 S4)))))) (.node (.node (.node .nil (.node (.node (.leaf s7 P1) (.leaf a1M a4p)) (.leaf D3 L1))) (.node (.node (.leaf y8 Y0) (.node (.node (.leaf P6 a2M) (.leaf D5 a1d)) (.leaf F7 X3))) (.node .nil (.node (.leaf P4 a0o) (.leaf C8 L3))))) (.node (.node (.node .nil (.node (.node (.leaf B0 a2h) (.leaf u3 E8)) .nil)) (.node (.leaf p7 D6) (.node (.leaf u6 B8) (.leaf L2 a1Z)))) (.node (.node (.node (.leaf x7 M1) (.leaf V5 a2W)) (.leaf o5 M8)) (.node (.leaf P0 a2R) (.leaf B6 I7)))))) (.node (.node (.node (.node (.leaf O5 a2Y) (.node (.node (.leaf Y3 a1L) (.leaf a3J a8r)) (.node (.node (.leaf X9 a4E) (.leaf M4 a0O)) .nil))) (.node (.node (.node (.leaf w9 a0R) (.leaf A1 P8)) (.leaf A9 Q0)) (.node (.leaf y4 S3) (.node (.leaf E1 a0U) (.leaf a7t b0y))))) (.node (.leaf p8 D7) (.node (.node (.leaf C5 H3) (.node (.leaf U8 a1n) (.leaf u1 L4))) (.node .nil (.node (.leaf V3 a2V) (.leaf B5 I5)))))) (.node (.node (.node (.leaf a1W a4H) (.node (.leaf E9 W0) (.node (.node (.leaf Q7 a4G) (.leaf Q5 Z1)) .nil))) (.node .nil (.node (.leaf D1 a2K) (.leaf Q4 Z4)))) (.node (.node (.node (.leaf L5 a1O) (.leaf m7 A3)) (.node (.leaf v5 M9) (.node (.leaf A8 S2) (.leaf U6 b0G)))) (.node (.node (.node (.leaf E6 L6) (.leaf q0 a5G)) .nil) (.node (.leaf u2 U9) (.node (.node (.leaf a0k a5E) (.leaf E2 S0)) (.leaf B3 I6))))))))
def a0P:TF:=.nil
def b3i:TF:=(.node (.node (.node (.leaf l8 P2) (.leaf K6 S4)) (.node .nil (.node (.leaf L2 a1Z) (.leaf V5 a2W)))) (.node (.leaf u1 L4) (.leaf Q4 Z4)))
def b3j:TF:=.nil
def ext (_:Nat):Option a3n:=none
theorem c3w (C:Laid P):a0C.all (b9 P)=true:=by simp only [a0C,TF.all,a0G C,a3X C,a5C C,b3J C,b3V C,a1v C,a9c C,b3s C,b1l C,a9m C,b3G C,a4F C,a0j C,a3t C,a0e C,a9K C,b5n C,b1A C,b8l C,b4m C,a1G C,a0F C,Z3 C,a1U C,X5 C,a7S C,c1t C,b4u C,c1x C,a4C C,a6r C,a3Z C,a3R C,a3P C,a3O C,a3M C,V0 C,a3a C,a4B C,a1F C,a1D C,a2C C,a5Z C,a7Y C,a0m C,a7K C,a2f C,a4O C,a2P C,a4k C,a5Q C,a0Y C,K9 C,M0 C,D9 C,a3j C,b0E C,a5i C,R6 C,a3I C,a2n C,a6m C,H7 C,a0K C,R5 C,a9f C,a8R C,Z8 C,a5K C,a0D C,a3A C,Bool.and_self]
theorem c2W (_C:Laid P):a0P.all (b9 P)=true:=by simp only [a0P,TF.all,Bool.and_self]
theorem c3k (C:Laid P):b3i.all (b9 P)=true:=by simp only [b3i,TF.all,a6r C,a3Z C,V0 C,X5 C,a7S C,a9K C,Bool.and_self]
theorem c2S (_C:Laid P):b3j.all (O4 P)=true:=by simp only [b3j,TF.all,Bool.and_self]
theorem b7N:a4T P G fun g=>(ext g).map a6M:=by
 intro g h hg
 cases hg
theorem a9S:∀ g ps own r,kn0 g ps=some (own,r)→j7 P G g ps own r:=fun _ _ _ _ h=>by cases h
theorem run:isR [] (.bool true) ((a4S G kn0 ext b3i.fn b3j.fn a0C.fn a0P.fn 10000 20).call X9 [])=true:=by kernel_rfl
theorem ok (C:Laid P):j7 P G X9 [] [] (.bool true):=a7B C.mixed a9S b7N (TF.b8 (c3k C)) (TF.b8 (c2S C)) (TF.b8 (c3w C)) (TF.b8 (c2W C)) (b6w run)
end Go.Ab.Td.TdW18
namespace Go.Ab.Td
set_option maxRecDepth 100000
open Go Go.Ab
variable {P:Program}
set_option linter.unusedSimpArgs false
set_option linter.unusedVariables false
attribute [local irreducible] f0
end Go.Ab.Td

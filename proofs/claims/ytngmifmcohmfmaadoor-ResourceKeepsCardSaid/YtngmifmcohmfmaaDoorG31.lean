/- A part of the proof: the texts TdSu. Under: nothing. -/
import Derived.Test.YtngmifmcohmfmaaDoorG26
import Derived.Test.YtngmifmcohmfmaaDoorG30
set_option linter.unusedVariables false
namespace Go.Ab.Td
set_option maxRecDepth 100000
set_option maxRecDepth 100000
open Go Go.Ab
variable {P:Program}
theorem c0K {h:List Cl} (t:a1u h):h[4]?=some a4L∧(∀ j:Nat,5≤j→j≤9→h[j]?=some (dct [] [] 10))∧10≤h.length:=by
 obtain ⟨more,rfl,hm,hall⟩:=t
 refine ⟨rfl,fun j h1 h2=>?_,by simp [a0X]⟩
 have:j=5∨j=6∨j=7∨j=8∨j=9:=by omega
 rcases this with rfl | rfl | rfl | rfl | rfl <;>rfl
theorem b1t (j:Int) (h0:0≤j) (h1:j≤20000):(dO j).right:=by
 unfold Ob.right Ob.blank dO;simp;omega
theorem b2J {h:List Cl} {j:Int} {c:Cl} (h0:0≤j) (h1:j≤20000) (hc:h[j.toNat]?=some c) (hk:c.kind=3):R6 h (dO j) [9]=0∧cellAt h (dO j)=c:=by
 have hca:cellAt h (dO j)=c:=by show (h[j.toNat]?).getD cl0=c;rw [hc];rfl
 have hf:fits h (dO j):=(b0L (b1t j h0 h1)).2 (.inr ⟨by have:=(List.getElem?_eq_some_iff.1 hc).1;show j<_;omega,by rw [hca,hk];rfl,.inl rfl⟩)
 refine ⟨?_,hca⟩
 unfold R6
 rw [if_neg (Classical.not_not.2 hf),if_pos (by simp [dO])]
theorem b2i {cs:List UInt8} (h:cs ∈ a1y):∃ j:Int,5≤j∧j≤9∧look a4L (D1 cs)=some (dO j)∧cs.length≤100:=by
 simp only [a1y,List.mem_cons,List.not_mem_nil,or_false] at h
 rcases h with rfl | rfl | rfl | rfl | rfl
 ·exact ⟨5,by decide,by decide,by simp [look,a4L,dct,a1y,i9,D1],by decide⟩
 ·exact ⟨6,by decide,by decide,by simp [look,a4L,dct,a1y,i9,D1],by decide⟩
 ·exact ⟨7,by decide,by decide,by simp [look,a4L,dct,a1y,i9,D1],by decide⟩
 ·exact ⟨8,by decide,by decide,by simp [look,a4L,dct,a1y,i9,D1],by decide⟩
 ·exact ⟨9,by decide,by decide,by simp [look,a4L,dct,a1y,i9,D1],by decide⟩
theorem b3q {h:List Cl} {s:List UInt8} (hs:s.length≤100):o0 h (D1 s)=(D1 s,0):=by
 have hr:(D1 s).right:=(F9 s false).2 hs
 have hf:fits h (D1 s):=⟨hr,fun hk=>absurd rfl hk⟩
 unfold o0
 rw [if_neg (Classical.not_not.2 hf),if_neg (by simp [D1]),if_neg (by simp [D1])]
 simp [Ob.key,D1]
def c6m:List UInt8:=[110,101,119]
section
variable {s:Q0} (hs:c0z s) {cs:List UInt8} (hc:cs ∈ a1y) (o:Ob) (ho:o.n<9223372036854775808)
def c0C (s:Q0) (o:Ob) (cs:List UInt8):Q0:={s with ops:=[D1 c6m,o,D1 cs]}
end
end Go.Ab.Td

/- A part of the proof: the texts TdUj, TdUl, TdUm. Under: nothing. -/
import Derived.Test.YtngmifmcohmfmaaDoorG08
import Derived.Test.YtngmifmcohmfmaaDoorG05
import Derived.Test.YtngmifmcohmfmaaDoorG31
import Derived.Test.YtngmifmcohmfmaaDoorG32
import Derived.Test.YtngmifmcohmfmaaDoorG33
import Derived.Test.YtngmifmcohmfmaaDoorG34
import Derived.Test.YtngmifmcohmfmaaDoorG35
set_option linter.unusedVariables false
namespace Go.Ab.Td
set_option maxRecDepth 100000
set_option maxRecDepth 100000
open Go Go.Ab
variable {P:Program}
set_option linter.unusedSimpArgs false
attribute [local irreducible] e9
set_option maxHeartbeats 8000000 in
theorem b0q (C:Laid P) (s t:v9) (e:Int) (hr:j4 P G s7 [aS s] [] (.x6 [aS t,pI e])):j4 P G A5 [aS s,.str [118,109,115,116,97,116,117,115]] [] (.x6 [aS t,pI e]):=by
 refine i5 C (a7N C) rfl ?_
 repeat' ((conv=>whnf);first | (with_reducible refine sC (by kernel_rfl) ?_) | ((first | (with_reducible first | refine sB ?_ | refine o5 ?_ | refine o6 ?_) | refine sP (by rfl) ?_);first | refine oT ?_ | refine oF ?_ | (refine Or.inr (Or.inr ⟨fun hsp=>?_,fun hsp=>?_⟩) <;>(try simp only [nm] at hsp) <;>try subst hsp)) | refine ⟨_,_,hr,?_⟩ | fail)
 all_goals (conv=>whnf)
 all_goals (exact PV.le.refl _)
end Go.Ab.Td
namespace Go.Ab.Td
set_option maxRecDepth 100000
set_option maxRecDepth 100000
open Go Go.Ab
variable {P:Program}
set_option linter.unusedSimpArgs false
def SX (s:v9):Prop:=∀ o ∈ s.ops,o.kind=12→o=svO o.n
theorem b5A (n:Int):∀ (l:List Sn) (s:Nat),plF n s l= -1∨∃ (i:Nat) (x:Sn),plF n s l=((s+i:Nat):Int)∧l[i]?=some x
 | [],_=>.inl rfl
 | y::l,s=>by
   unfold plF
   by_cases h:y.n=n
   ·rw [if_pos h];exact .inr ⟨0,y,rfl,rfl⟩
   ·rw [if_neg h]
    rcases b5A n l (s+1) with e | ⟨i,x,e,hx⟩
    ·exact .inl e
    ·exact .inr ⟨i+1,x,by rw [e];congr 1;omega,by simpa using hx⟩
def c6D (P:Program) (op:List UInt8) (s t:v9) (e:Int):Prop:=j4 P G A5 [aS s,.str op] [] (.x6 [aS t,pI e])∧j4 P G B1 [aS s,.str op] [] (.x6 [aS t,pI e])
def Next (P:Program) (F:Prop) (m:Nat) (op:List UInt8) (s:v9):Prop:=∃ (t:v9) (e:Int) (l:List Sn) (ts:List v9),SI F (m+1) t l ts∧SX t∧c6D P op s t e
section
variable (C:Laid P) {F:Prop} {m:Nat} {s:v9} {l:List Sn} {ts:List v9} (t:SI F m s l ts) (sx:SX s)
include C t sx
end
end Go.Ab.Td
namespace Go.Ab.Td
set_option maxRecDepth 100000
set_option maxRecDepth 100000
open Go Go.Ab
variable {P:Program}
set_option linter.unusedSimpArgs false
def c7M (s:v9) (l:List Sn) (ts:List v9) (t:v9) (e:Int) (l':List Sn) (ts':List v9):Prop:=(t=s∧l'=l∧ts'=ts∧(e=26∧10≤l.length∨e=21∧100≤s.ops.length))∨(e=0∧t=svS s∧l'=l++[(⟨s.f4+1,s.heap,(l.length:Int)⟩:Sn)]∧ts'=ts++[s]∧t.f4=s.f4+1)
def VmO (s:v9) (l:List Sn) (ts:List v9) (t:v9) (e:Int) (l':List Sn) (ts':List v9):Prop:=l'=l∧ts'=ts∧(t=s∧e≠0∨e=0∧t={s with ops:=s.ops++vmL s})
def c2L (s:v9) (l:List Sn) (ts:List v9) (t:v9) (e:Int) (l':List Sn) (ts':List v9):Prop:=(t=s∧l'=l∧ts'=ts∧(e=20∧s.ops=[]∨∃ lo o,s.ops=lo++[o]∧(e=22∧o.kind≠12∨e=34∧o.kind=12∧(plF o.n 0 l= -1∨∃ (i:Nat) (x:Sn),plF o.n 0 l=(i:Int)∧l[i]?=some x∧((∃ o ∈ lo,n7 x.heap.length o)∨∃ o ∈ s.e6,n7 x.heap.length o)))))∨(e=0∧∃ (lo:List Ob) (o:Ob) (i:Nat) (x:Sn) (g:v9),s.ops=lo++[o]∧plF o.n 0 l=(i:Int)∧l[i]?=some x∧ts[i]?=some g∧(¬ ∃ o ∈ lo,n7 x.heap.length o)∧(¬ ∃ o ∈ s.e6,n7 x.heap.length o)∧t=rsS s lo x.heap g i i∧l'=l.take i∧ts'=ts.take i)
def c0j (P:Program) (F:Prop) (m:Nat) (op:List UInt8) (s:v9) (Q:v9→Int→List Sn→List v9→Prop):Prop:=∃ (t:v9) (e:Int) (l:List Sn) (ts:List v9),SI F (m+1) t l ts∧SX t∧Q t e l ts∧c6D P op s t e
section
variable (C:Laid P) {F:Prop} {m:Nat} {s:v9} {l:List Sn} {ts:List v9} (t:SI F m s l ts) (sx:SX s)
include C t sx
theorem b7y (hm:m<1000000):c0j P F m [115,97,118,101] s (c7M s l ts):=by
 have e3:s.f3.length=l.length:=by rw [t.h3,List.length_map]
 have e62:s.f62.length=l.length:=by rw [t.h62,List.length_map,t.tl]
 by_cases h10:10≤l.length
 ·exact ⟨s,26,l,ts,t.more (by omega),sx,.inl ⟨rfl,rfl,rfl,.inl ⟨rfl,h10⟩⟩,a3S C s s 26 (b8a C s (.inl (by omega))),b2j C s (.inl (by omega))⟩
 ·by_cases ho:s.ops.length<100
  ·refine ⟨svS s,0,_,_,t.save hm (by omega) ho,fun o hx hk=>?_,.inr ⟨rfl,rfl,rfl,rfl,by have:=t.made;exact wrap_small (by omega) (by omega)⟩,a3S C s _ 0 (a8g C s (by omega) (by omega) ho),b7Y C s l ts t.h3 t.h62 (by omega) (by have:=t.tl;omega) ho⟩
   rcases List.mem_append.1 (show o ∈ s.ops++[svO (IntKind.i64.wrap (s.f4+1))] from hx) with hx | hx
   ·exact sx o hx hk
   ·simp only [List.mem_singleton] at hx;subst hx;rfl
  ·have:=t.ol
   exact ⟨s,21,l,ts,t.more (by omega),sx,.inl ⟨rfl,rfl,rfl,.inr ⟨rfl,by omega⟩⟩,a3S C s s 21 (b6L C s (by omega) (by omega) (by omega) (by omega)),b1i C s l ts t.h3 t.h62 (by omega) (by have:=t.tl;omega) (by omega) (by omega)⟩
theorem c6R:c0j P F m [118,109,115,116,97,116,117,115] s (VmO s l ts):=by
 have hl:=t.sh.len
 have ol:=t.ol
 by_cases ho:s.ops.length≤97
 ·have e3:s.f3.length=l.length:=by rw [t.h3,List.length_map]
  have ll:=t.ll
  have tot:=t.sh.tot
  have hv:=t.sh.v.2
  have mem:∀ p ∈ s.ops++vmL s,p ∈ s.ops∨∃ n:Int,p=⟨3,false,n,[],0,0,0⟩∧0≤n∧n≤20000:=by
   intro p hp
   rcases List.mem_append.1 hp with hp | hp
   ·exact .inl hp
   ·simp only [vmL,List.mem_cons,List.not_mem_nil,or_false] at hp
    rcases hp with rfl | rfl | rfl
    ·exact .inr ⟨_,rfl,by omega,by omega⟩
    ·exact .inr ⟨_,rfl,by omega,by omega⟩
    ·exact .inr ⟨_,rfl,by omega,by omega⟩
  refine ⟨{s with ops:=s.ops++vmL s},0,l,ts,(t.b1o (ops:=s.ops++vmL s) (by rw [List.length_append];show s.ops.length+3≤100;omega) (fun hF p hp=>?_) (fun p hp=>?_)).more (by omega),fun p hp hk=>?_,⟨rfl,rfl,.inr ⟨rfl,rfl⟩⟩,b0q C s _ 0 (c9a C s (by omega) ho),c1J C s (by omega) ho⟩
  ·rcases mem p hp with hp | ⟨n,rfl,h0,h1⟩
   ·exact t.of' hF p hp
   ·exact fits_int (by omega) (by omega) false
  ·rcases mem p hp with hp | ⟨n,rfl,h0,h1⟩
   ·exact t.on p hp
   ·dsimp only;omega
  ·rcases mem p hp with hp | ⟨n,rfl,h0,h1⟩
   ·exact sx p hp hk
   ·simp at hk
 ·exact ⟨s,21,l,ts,t.more (by omega),sx,⟨rfl,rfl,.inl ⟨rfl,by decide⟩⟩,b0q C s s 21 (b8Z C s (by omega) (by omega) (by omega)),b3I C s (by omega) (by omega) (by omega)⟩
theorem b1J:c0j P F m [114,101,115,116,111,114,101] s (c2L s l ts):=by
 have a0u:∀ e:Int,c2L s l ts s e l ts→c6D P [114,101,115,116,111,114,101] s s e→c0j P F m [114,101,115,116,111,114,101] s (c2L s l ts):=fun e q h=>⟨s,e,l,ts,t.more (by omega),sx,q,h⟩
 have ll:=t.ll
 rcases List.eq_nil_or_concat s.ops with h0 | ⟨lo,o,hop⟩
 ·exact a0u 20 (.inl ⟨rfl,rfl,rfl,.inl ⟨rfl,h0⟩⟩) ⟨B4 C s s 20 (b1j C s h0),b6K C s h0⟩
 ·rw [List.concat_eq_append] at hop
  have ol:=t.ol
  rw [hop] at ol
  simp at ol
  have hom:o ∈ s.ops:=by rw [hop];simp
  by_cases hk:o.kind=12
  ·have ho:=sx o hom hk
   have hopn:s.ops=lo++[svO o.n]:=by rw [← ho];exact hop
   rcases b5A o.n l 0 with e | ⟨i,x,e,hx⟩
   ·exact a0u 34 (.inl ⟨rfl,rfl,rfl,.inr ⟨lo,o,hop,.inr ⟨rfl,hk,.inl e⟩⟩⟩) ⟨B4 C s s 34 (a8D C s l lo o.n hopn t.h3 (by omega) (by omega) (by omega)),c1I C s lo o hop (by omega) l t.h3 (by omega) hk (by omega)⟩
   ·rw [Nat.zero_add] at e
    obtain ⟨xn,xh,xs⟩:=x
    obtain ⟨hst, -, -⟩:=t.sv i _ hx
    dsimp only at hst
    subst hst
    have hi:=(List.getElem?_eq_some_iff.1 hx).1
    obtain ⟨g,hg⟩:∃ g,ts[i]?=some g:=⟨_,List.getElem?_eq_getElem (by have:=t.tl;omega)⟩
    have hg2:s.f62[i]?=some (grO g):=by rw [t.h62,List.getElem?_map,hg];rfl
    have dl:=t.dl
    by_cases hnw:∃ o ∈ lo,n7 xh.length o
    ·exact a0u 34 (.inl ⟨rfl,rfl,rfl,.inr ⟨lo,o,hop,.inr ⟨rfl,hk,.inr ⟨i,_,e,hx,.inl hnw⟩⟩⟩⟩) ⟨B4 C s s 34 (b0o C s lo o hop (by omega) l t.h3 (by omega) o.n ho (by omega) i xn xh i e hx hnw),b4Q C s lo o hop (by omega) l t.h3 (by omega) o.n ho (by omega) i xn xh i e hx hnw⟩
    ·by_cases hnd:∃ o ∈ s.e6,n7 xh.length o
     ·exact a0u 34 (.inl ⟨rfl,rfl,rfl,.inr ⟨lo,o,hop,.inr ⟨rfl,hk,.inr ⟨i,_,e,hx,.inr hnd⟩⟩⟩⟩) ⟨B4 C s s 34 (b0p C s lo o hop (by omega) l t.h3 (by omega) o.n ho (by omega) i xn xh i e hx hnw hnd),b4R C s lo o hop (by omega) l t.h3 (by omega) o.n ho (by omega) i xn xh i e hx hnw hnd⟩
     ·refine ⟨rsS s lo xh g i i,0,l.take i,ts.take i,(t.restore hop hx g hnw hnd).more (by omega),fun p hp hk=>?_,.inr ⟨rfl,lo,o,i,_,g,hop,e,hx,hg,hnw,hnd,rfl,rfl,rfl⟩,B4 C s _ 0 (b3L C s l lo o.n hopn t.h3 (by omega) (by omega) (by omega) i i e xn xh hx g hg2 hnw hnd),b8Y C s lo o hop (by omega) (by omega) l t.h3 (by omega) o.n ho (by omega) i xn xh i e hx g hg2 hnw hnd⟩
      exact sx p (by rw [hop];exact List.mem_append_left _ hp) hk
  ·exact a0u 22 (.inl ⟨rfl,rfl,rfl,.inr ⟨lo,o,hop,.inl ⟨rfl,hk⟩⟩⟩) ⟨B4 C s s 22 (b2k C s lo o hop (by omega) hk),b7Z C s lo o hop (by omega) hk⟩
end
end Go.Ab.Td

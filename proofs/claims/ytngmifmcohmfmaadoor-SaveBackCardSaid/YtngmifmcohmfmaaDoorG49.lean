/- A part of the proof: the texts TdRy0. Under: nothing. -/
import Derived.Test.YtngmifmcohmfmaaDoorG48
import Derived.Test.YtngmifmcohmfmaaDoorG28
set_option linter.unusedVariables false
namespace Go.Ab.Td
set_option maxRecDepth 100000
set_option maxRecDepth 100000
open Go Go.Ab
variable {P:Program}
set_option linter.unusedSimpArgs false
attribute [local irreducible] e9
structure Inc (n:Int) (l:List Sn):Prop where
 inc:∀ (i k:Nat) (x y:Sn),i<k→l[i]?=some x→l[k]?=some y→x.n<y.n
 rng:∀ x ∈ l,1≤x.n∧x.n≤n
def K1 (n:Int) (d:List Ob) (l:List Sn) (_ts:List v9):Prop:=0≤n∧(∃ r,d=dO 0::dO 1::r)∧(∀ p ∈ d,p.kind=9)∧Inc n l
theorem b8G {l:List Sn} {z x:Sn} {i:Nat} (h:(l++[z])[i]?=some x):(i<l.length∧l[i]?=some x)∨(i=l.length∧x=z):=by
 by_cases hi:i<l.length
 ·rw [List.getElem?_append_left hi] at h;exact .inl ⟨hi,h⟩
 ·rw [List.getElem?_append_right (by omega)] at h
  have:i - l.length=0:=by
   have:=(List.getElem?_eq_some_iff.1 h).1
   simp at this;omega
  rw [this] at h
  simp only [List.getElem?_cons_zero,Option.some.injEq] at h
  exact .inr ⟨by omega,h.symm⟩
theorem Inc.save {n:Int} {l:List Sn} (t:Inc n l) (h0:0≤n) (h:List Cl) (st:Int):Inc (n+1) (l++[(⟨n+1,h,st⟩:Sn)]):=by
 refine ⟨fun i k x y hik hx hy=>?_,fun x hx=>?_⟩
 ·rcases b8G hx with ⟨hi,hx⟩ | ⟨hi,rfl⟩
  ·rcases b8G hy with ⟨hk,hy⟩ | ⟨hk,rfl⟩
   ·exact t.inc i k x y hik hx hy
   ·have:=(t.rng x (List.mem_of_getElem? hx)).2;show x.n<n+1;omega
  ·rcases b8G hy with ⟨hk,hy⟩ | ⟨hk,rfl⟩ <;>omega
 ·rcases List.mem_append.1 hx with hx | hx
  ·have:=t.rng x hx;omega
  ·simp only [List.mem_singleton] at hx;subst hx;show 1≤n+1∧n+1≤n+1;omega
theorem b2t {l:List Sn} {m i:Nat} {x:Sn} (h:(l.take m)[i]?=some x):i<m∧l[i]?=some x:=by
 have hi:=(List.getElem?_eq_some_iff.1 h).1
 rw [List.length_take] at hi
 rw [List.getElem?_take_of_lt (by omega)] at h
 exact ⟨by omega,h⟩
theorem Inc.back {n:Int} {l:List Sn} (t:Inc n l) (m:Nat):Inc n (l.take m):=
 ⟨fun i k x y hik hx hy=>t.inc i k x y hik (b2t hx).2 (b2t hy).2,fun x hx=>t.rng x (List.mem_of_mem_take hx)⟩
theorem b3q:a9r K1:=
 ⟨fun d' h9 ⟨h0,⟨r,hr⟩,hk,hi⟩=>⟨h0,⟨r++d',by rw [hr];rfl⟩,fun p hp=>(List.mem_append.1 hp).elim (hk p) (h9 p),hi⟩,
  fun h _ ⟨h0,hr,hk,hi⟩=>⟨by omega,hr,hk,hi.save h0 h _⟩,
  fun i ⟨h0,hr,hk,hi⟩=>⟨h0,hr,hk,hi.back i⟩⟩
def K2 (N:Int) (p:List Sn) (q:List v9) (n:Int) (d:List Ob) (l:List Sn) (ts:List v9):Prop:=K1 n d l ts∧N≤n∧((p<+:l∧q<+:ts)∨∀ x ∈ l,x.n≠N)
theorem c7b {N:Int} {l0:List Sn} {x0:Sn} {q:List v9} (hN:x0.n=N) (hq:q.length=l0.length+1):a9r (K2 N (l0++[x0]) q):=
 ⟨fun d' h9 ⟨h,h1,h2⟩=>⟨b3q.more d' h9 h,h1,h2⟩,
  fun {n d l ts} h s ⟨hk,h1,h2⟩=>⟨b3q.save h s hk,by omega,by
   rcases h2 with ⟨a,b⟩ | a
   ·exact .inl ⟨a.trans (List.prefix_append _ _),b.trans (List.prefix_append _ _)⟩
   ·refine .inr fun x hx=>?_
    rcases List.mem_append.1 hx with hx | hx
    ·exact a x hx
    ·simp only [List.mem_singleton] at hx;subst hx;show n+1≠N;omega⟩,
  fun {n d l ts} i ⟨hk,h1,h2⟩=>⟨b3q.back i hk,h1,by
   rcases h2 with ⟨a,b⟩ | a
   ·by_cases hi:l0.length+1≤i
    ·exact .inl ⟨List.prefix_take_iff.2 ⟨a,by simp;omega⟩,List.prefix_take_iff.2 ⟨b,by omega⟩⟩
    ·refine .inr fun x hx=>?_
     obtain ⟨k,hx⟩:=List.getElem?_of_mem hx
     obtain ⟨hki,hx⟩:=b2t hx
     obtain ⟨r,hr⟩:=a
     have h0:l[l0.length]?=some x0:=by rw [← hr];simp
     have:=hk.2.2.2.inc k l0.length x x0 (by omega) hx h0
     omega
   ·exact .inr fun x hx=>a x (List.mem_of_mem_take hx)⟩⟩
theorem b3P {N:Int}:∀ {l:List Sn} {s:Nat},(∀ x ∈ l,x.n≠N)→plF N s l= -1
 | [],_,_=>rfl
 | x::l,s,h=>by
   unfold plF
   rw [if_neg (h x (by simp))]
   exact b3P fun y hy=>h y (by simp [hy])
theorem c3E {N:Int}:∀ {l:List Sn} {s i:Nat} {x:Sn},l[i]?=some x→x.n=N→(∀ k y,k<i→l[k]?=some y→y.n≠N)→plF N s l=((s+i:Nat):Int)
 | [],_,_,_,h,_,_=>by simp at h
 | z::l,s,0,x,h,hn,_=>by
   simp only [List.getElem?_cons_zero,Option.some.injEq] at h
   subst h
   unfold plF
   rw [if_pos hn];rfl
 | z::l,s,i+1,x,h,hn,hk=>by
   unfold plF
   rw [if_neg (hk 0 z (by omega) rfl),c3E (i:=i) (by simpa using h) hn (fun k y h1 h2=>hk (k+1) y (by omega) (by simpa using h2))]
   congr 1;omega
theorem c5j {n:Int} {l:List Sn} (t:Inc n l) {i:Nat} {x:Sn} (h:l[i]?=some x):plF x.n 0 l=(i:Int):=by
 rw [c3E h rfl fun k y h1 h2=>by have:=t.inc k i y x h1 h2 h;omega,Nat.zero_add]
set_option maxHeartbeats 1000000 in
theorem c1G (C:Laid P) (x:Sn) (o:Ob):j4 P G C9 [.agg (w7 x),.ref (i4 o)] [] (.bool (decide (x.n=o.n))):=by
 refine i5 C (a8T C) rfl ?_
 repeat' ((conv=>whnf);first | (with_reducible refine sC (by kernel_rfl) ?_) | ((first | (with_reducible first | refine sB ?_ | refine o5 ?_ | refine o6 ?_) | refine sP (by rfl) ?_);first | refine oT ?_ | refine oF ?_ | (refine Or.inr (Or.inr ⟨fun hsp=>?_,fun hsp=>?_⟩) <;>(try simp only [nm] at hsp) <;>try subst hsp)) | fail)
 all_goals (conv=>whnf)
 all_goals (exact PV.le.refl _)
set_option maxHeartbeats 1000000 in
theorem a4U (C:Laid P) (l:List Sn) (o:Ob) (hl:l.length≤1000):j4 P G E9 [.sl 3 (List.map w7 l),.func (.func C9) [] [.ref (i4 o)]] [] (pI (plF o.n 0 l)):=by
 refine i5 C (a5A C) rfl ?_
 repeat' ((conv=>whnf);first | (with_reducible refine sC (by kernel_rfl) ?_) | ((first | (with_reducible first | refine sB ?_ | refine o5 ?_ | refine o6 ?_) | refine sP (by rfl) ?_);first | refine oT ?_ | refine oF ?_ | (refine Or.inr (Or.inr ⟨fun hsp=>?_,fun hsp=>?_⟩) <;>(try simp only [nm,List.length_map] at hsp) <;>try subst hsp)) | fail)
 all_goals (conv=>whnf)
 intro X hX hW
 refine a2s hX (fun st (a:Nat)=>st.upd [(8,.pv (pI (a:Int)))] []) (fun a k=>a+k=l.length∧plF o.n 0 l=plF o.n a (l.drop a)) 0 l.length (by (conv=>whnf);first | done | rfl) ⟨by simp,by simp⟩ ?_
 intro m i ih hI
 have w1:IntKind.i64.wrap ((i:Int)+1)=((i+1:Nat):Int):=by rw [wrap_small (by omega) (by omega)];omega
 rcases a0J l i with ⟨x,hlt,hx⟩ | hge
 ·have hrow:=y9 (f:=w7) hx
  have hd:=W1 hx
  have hI2:=hI.2
  rw [hd] at hI2
  simp only [plF] at hI2
  have kB:=c1G C x o
  by_cases hp:x.n=o.n
  ·rw [if_pos hp] at hI2
   rw [hI2]
   rw [decide_eq_true hp] at kB
   repeat' ((conv=>whnf);first | (with_reducible refine sC (by kernel_rfl) ?_) | ((first | (with_reducible first | refine sB ?_ | refine o5 ?_ | refine o6 ?_) | refine sP (by rfl) ?_);first | refine oT ?_ | refine oF ?_ | (refine Or.inr (Or.inr ⟨fun hsp=>?_,fun hsp=>?_⟩) <;>(try simp only [nm,List.length_map] at hsp) <;>try subst hsp)) | refine ⟨_,_,kB,?_⟩ | refine sS (e7 (by rfl) (by rfl) (by omega) hrow) ?_ | fail)
   all_goals (conv=>whnf)
   all_goals exact PV.le.refl _
  ·rw [if_neg hp] at hI2
   rw [decide_eq_false hp] at kB
   repeat' ((conv=>whnf);first | (with_reducible refine sC (by kernel_rfl) ?_) | ((first | (with_reducible first | refine sB ?_ | refine o5 ?_ | refine o6 ?_) | refine sP (by rfl) ?_);first | refine oT ?_ | refine oF ?_ | (refine Or.inr (Or.inr ⟨fun hsp=>?_,fun hsp=>?_⟩) <;>(try simp only [nm,List.length_map] at hsp) <;>try subst hsp)) | refine ⟨_,_,kB,?_⟩ | refine sS (e7 (by rfl) (by rfl) (by omega) hrow) ?_ | fail)
   all_goals (conv=>whnf)
   all_goals (refine ih (m - 1) (i+1) _ (by omega) ⟨by (try dsimp only);omega,hI2⟩ (by (conv=>whnf);first | done | rfl | (rw [w1];first | done | rfl)))
 ·have hd:l.drop i=[]:=List.drop_eq_nil_of_le hge
  have hI2:=hI.2
  rw [hd] at hI2
  simp only [plF] at hI2
  rw [hI2]
  repeat' ((conv=>whnf);first | (with_reducible refine sC (by kernel_rfl) ?_) | ((first | (with_reducible first | refine sB ?_ | refine o5 ?_ | refine o6 ?_) | refine sP (by rfl) ?_);first | refine oT ?_ | refine oF ?_ | (refine Or.inr (Or.inr ⟨fun hsp=>?_,fun hsp=>?_⟩) <;>(try simp only [nm,List.length_map] at hsp) <;>try subst hsp)) | fail)
  all_goals (conv=>whnf)
  all_goals exact PV.le.refl _
set_option maxHeartbeats 1000000 in
theorem U0 (C:Laid P) (l:List Sn) (o:Ob) (hl:l.length≤1000) (b:Bool) (hb:decide (0≤plF o.n 0 l)=b):j4 P G B2 [.sl 3 (List.map w7 l),.func (.func C9) [] [.ref (i4 o)]] [] (.bool b):=by
 refine i5 C (a3J C) rfl ?_
 repeat' ((conv=>whnf);first | (with_reducible refine sC (by kernel_rfl) ?_) | ((first | (with_reducible first | refine sB ?_ | refine o5 ?_ | refine o6 ?_) | refine sP (by rfl) ?_);first | refine oT ?_ | refine oF ?_ | (refine Or.inr (Or.inr ⟨fun hsp=>?_,fun hsp=>?_⟩) <;>(try simp only [nm] at hsp) <;>try subst hsp)) | refine ⟨_,_,a4U C l o hl,?_⟩ | fail)
 all_goals (conv=>whnf)
 all_goals (subst hb;exact PV.le.refl _)
end Go.Ab.Td

/- A part of the proof: the texts TdKj, TdKk, TdKl, TdKm, TdVp, TdState, TdKitF, TdKit, TdTy. Under: nothing. -/
import Derived.Test.YtngmifmcohmfmaaDoorG13
import Derived.Test.YtngmifmcohmfmaaDoorG11
import Derived.Test.YtngmifmcohmfmaaDoorG05
namespace Go.Ab.Td
set_option maxRecDepth 100000
set_option maxRecDepth 100000
open Go Go.Ab
variable {P:Program}
set_option linter.unusedSimpArgs false
attribute [local irreducible] f0
set_option maxHeartbeats 1000000 in
theorem a7p (C:Laid P) (h:List Cl) (hl:h.length<2 ^ 62):j7 P G a1I [.sl 7 (List.map j9 h)] [] (pI (o0 0 h)):=by
 refine i5 C (b3W C) rfl ?_
 repeat' ((conv=>whnf);first | (with_reducible refine sC (by kernel_rfl) ?_) | ((first | (with_reducible first | refine sB ?_ | refine o8 ?_ | refine o7 ?_) | refine sP (by rfl) ?_);first | refine oT ?_ | refine oF ?_ | (refine Or.inr (Or.inr ⟨fun hsp=>?_,fun hsp=>?_⟩) <;>(try simp only [nm] at hsp) <;>try subst hsp)) | fail)
 all_goals (conv=>whnf)
 intro X hX hW
 refine a2x hX (fun st (a:Nat × Int)=>st.upd [(3,.pv (pI a.2)),(4,.pv (pI (a.1:Int)))] []) (fun a m=>a.1+m=h.length∧(o0 0 h=o0 a.2 (h.drop a.1))) (0,0) h.length (by (conv=>whnf);first | done | rfl) (by simp) ?_
 intro m a ih hI
 rcases a0E h a.1 with ⟨x,hlt,hx⟩ | hge
 ·have hrow:=y2 (f:=j9) hx
  have hd:=Z7 hx
  have hI2:=hI.2
  rw [hd] at hI2
  simp only [o0] at hI2
  repeat' ((conv=>whnf);first | (with_reducible refine sC (by kernel_rfl) ?_) | ((first | (with_reducible first | refine sB ?_ | refine o8 ?_ | refine o7 ?_) | refine sP (by rfl) ?_);first | refine oT ?_ | refine oF ?_ | (refine Or.inr (Or.inr ⟨fun hsp=>?_,fun hsp=>?_⟩) <;>(try simp only [nm,List.length_map] at hsp) <;>try subst hsp)) | refine ⟨_,_,a6q C x.kind x.bytes x.items x.keys x.w7 x.max x.at',?_⟩ | refine sS (e7 (by rfl) (by rfl) (by omega) hrow) ?_ | fail)
  all_goals (conv=>whnf)
  all_goals first
   | (refine ih (m - 1) (a.1+1,(IntKind.i64.wrap (a.2+x.size))) _ (by omega) ⟨by (try dsimp only);omega,?_⟩ (by (conv=>whnf);first | done | rfl | (simp (disch:=omega) only [p9])))
   | (with_reducible first | refine k7 ?_ | refine z6 ?_ | refine x6 ?_)
   | (refine z9 ?_;simp only [nm])
   | refine le_of_eq ?_
  all_goals grind
 ·have hd:h.drop a.1=[]:=List.drop_eq_nil_of_le hge
  have hI2:=hI.2
  rw [hd] at hI2
  simp only [o0] at hI2
  repeat' ((conv=>whnf);first | (with_reducible refine sC (by kernel_rfl) ?_) | ((first | (with_reducible first | refine sB ?_ | refine o8 ?_ | refine o7 ?_) | refine sP (by rfl) ?_);first | refine oT ?_ | refine oF ?_ | (refine Or.inr (Or.inr ⟨fun hsp=>?_,fun hsp=>?_⟩) <;>(try simp only [nm,List.length_map] at hsp) <;>try subst hsp)) | refine ⟨_,_,a6q C x.kind x.bytes x.items x.keys x.w7 x.max x.at',?_⟩ | fail)
  all_goals (conv=>whnf)
  all_goals first
   | (with_reducible first | refine k7 ?_ | refine z6 ?_ | refine x6 ?_)
   | (refine z9 ?_;simp only [nm])
   | refine le_of_eq ?_
  all_goals grind
end Go.Ab.Td
namespace Go.Ab.Td
set_option maxRecDepth 100000
open Go Go.Ab
variable {P:Program}
set_option linter.unusedSimpArgs false
attribute [local irreducible] f0
def c9m (l:List Ob) (i:Nat) (k:Ob):Prop:=k.kind≠0∧k.kind≠6∧k.key=k∧(i:Int)≤i9 k 0 l
def b5b (l:List Ob):Prop:=∀ (i:Nat) (k:Ob),l[i]?=some k→c9m l i k
end Go.Ab.Td
namespace Go.Ab.Td
set_option maxRecDepth 100000
open Go Go.Ab
variable {P:Program}
set_option linter.unusedSimpArgs false
attribute [local irreducible] f0
def Y5 (h:List Cl) (c:Cl):Prop:=
 (c.kind=1∧(c.bytes.length≤1000∧c.items.length=0∧c.keys.length=0∧c.w7.length=0∧c.max=0∧c.at'=0))∨
 (c.kind=2∧(c.bytes=[]∧c.items.length≤1000∧(∀ o ∈ c.items,fits h o)∧c.keys.length=0∧c.w7.length=0∧c.max=0∧c.at'=0))∨
 (c.kind=3∧(c.bytes=[]∧c.items.length=0∧c.at'=0∧0≤c.max∧c.max≤200∧c.keys.length=c.w7.length∧(c.keys.length:Int)≤c.max∧(∀ o ∈ c.keys,fits h o)∧(∀ o ∈ c.w7,fits h o)∧b5b c.keys))∨
 (c.kind=4∧(c.bytes.length≤4000∧c.items.length=0∧c.keys.length=0∧c.w7.length=0∧0≤c.at'∧c.at'≤c.bytes.length∧(c.max=0∨c.max=1)))
end Go.Ab.Td
namespace Go.Ab.Td
set_option maxRecDepth 100000
open Go Go.Ab
variable {P:Program}
set_option linter.unusedSimpArgs false
attribute [local irreducible] f0
end Go.Ab.Td
namespace Go.Ab.Td
set_option maxRecDepth 100000
set_option maxRecDepth 100000
open Go Go.Ab
set_option linter.unusedSimpArgs false
theorem a5e (k:Ob):∀ (l:List Ob) (i s:Nat),l[i]?=some k→(k ∈ l.take i↔i9 k s l<s+i)
 | [],_,_,h=>by simp at h
 | x::l,0,s,h=>by
   simp only [List.getElem?_cons_zero,Option.some.injEq] at h
   subst h
   simp [i9]
 | x::l,i+1,s,h=>by
   simp only [List.getElem?_cons_succ] at h
   have ih:=a5e k l i (s+1) h
   simp only [List.take_succ_cons,List.mem_cons]
   unfold i9
   by_cases e:x=k
   ·rw [if_pos e];simp [e];omega
   ·rw [if_neg e,ih]
    constructor
    ·rintro (e2 | e2)
     ·exact absurd e2.symm e
     ·omega
    ·intro e2;right;omega
theorem b6X {l:List Ob} (hr:∀ o ∈ l,o.right):b5O l↔b5b l:=by
 unfold b5O b5b
 refine forall_congr' fun i=>forall_congr' fun k=>⟨fun h hk=>?_,fun h hk=>?_⟩
 ·obtain ⟨h1,h2⟩:=h hk
  have r:=hr k (List.mem_of_getElem? hk)
  rw [a5e k l i 0 hk] at h2
  unfold b5G at h1
  rw [if_neg (fun h=>h r)] at h1
  by_cases h06:k.kind=0∨k.kind=6
  ·rw [if_pos h06] at h1
   simp at h1
  ·rw [if_neg h06] at h1
   simp only [Prod.mk.injEq,and_true] at h1
   exact ⟨by omega,by omega,h1,by omega⟩
 ·obtain ⟨h1,h2,h3,h4⟩:=h hk
  have r:=hr k (List.mem_of_getElem? hk)
  rw [a5e k l i 0 hk]
  unfold b5G
  rw [if_neg (fun h=>h r),if_neg (by omega),h3]
  exact ⟨rfl,by omega⟩
theorem c7q {p:Ob→Prop} {a b c:List Ob}:(∀ l ∈ [a,b,c],∀ o ∈ l,p o)↔((∀ o ∈ a,p o)∧(∀ o ∈ b,p o)∧(∀ o ∈ c,p o)):=by
 simp
theorem keys_nil {l:List Ob} (h:l.length=0):b5O l:=by
 rw [List.length_eq_zero_iff.1 h]
 intro i k hk
 simp at hk
theorem all_nil {p:Ob→Prop} {l:List Ob} (h:l.length=0):∀ o ∈ l,p o:=by
 rw [List.length_eq_zero_iff.1 h];simp
theorem b7H (h:List Cl) (c:Cl):b5m h c↔Y5 h c:=by
 unfold b5m a5P a3H
 rw [c7q]
 unfold a0B b4o Y5
 by_cases k1:c.kind=1
 ·rw [if_pos k1]
  constructor
  ·rintro ⟨⟨-,b1,b2,b3⟩ | ⟨e, -⟩ | ⟨e, -⟩ | ⟨e, -⟩,hl, -⟩
   ·exact .inl ⟨k1,hl,by omega,by omega,by omega,b2,b3⟩
   all_goals omega
  ·rintro (⟨-,h1,h2,h3,h4,h5,h6⟩ | ⟨e, -⟩ | ⟨e, -⟩ | ⟨e, -⟩)
   ·exact ⟨.inl ⟨k1,by omega,h5,h6⟩,h1,⟨all_nil h2,all_nil h3,all_nil h4⟩,keys_nil h3⟩
   all_goals omega
 rw [if_neg k1]
 by_cases k2:c.kind=2
 ·rw [if_pos k2]
  constructor
  ·rintro ⟨⟨e, -⟩ | ⟨-,b1,b2,b3,b4⟩ | ⟨e, -⟩ | ⟨e, -⟩,hl,⟨hf, -⟩, -⟩
   ·omega
   ·exact .inr (.inl ⟨k2,b1,hl,hf,by omega,by omega,b3,b4⟩)
   all_goals omega
  ·rintro (⟨e, -⟩ | ⟨-,h1,h2,h3,h4,h5,h6,h7⟩ | ⟨e, -⟩ | ⟨e, -⟩)
   ·omega
   ·exact ⟨.inr (.inl ⟨k2,h1,by omega,h6,h7⟩),h2,⟨h3,all_nil h4,all_nil h5⟩,keys_nil h4⟩
   all_goals omega
 rw [if_neg k2]
 by_cases k3:c.kind=3
 ·rw [if_pos k3]
  constructor
  ·rintro ⟨⟨e, -⟩ | ⟨e, -⟩ | ⟨-,b1,b2,b3⟩ | ⟨e, -⟩,⟨l1,l2,l3,l4⟩,⟨-,hf,hv⟩,hk⟩
   ·omega
   ·omega
   ·exact .inr (.inr (.inl ⟨k3,b1,b2,b3,l1,l2,l3,l4,hf,hv,(b6X fun o ho=>(hf o ho).1).1 hk⟩))
   ·omega
  ·rintro (⟨e, -⟩ | ⟨e, -⟩ | ⟨-,h1,h2,h3,h4,h5,h6,h7,h8,h9,h10⟩ | ⟨e, -⟩)
   ·omega
   ·omega
   ·exact ⟨.inr (.inr (.inl ⟨k3,h1,h2,h3⟩)),⟨h4,h5,h6,h7⟩,⟨all_nil h2,h8,h9⟩,(b6X fun o ho=>(h8 o ho).1).2 h10⟩
   ·omega
 rw [if_neg k3]
 constructor
 ·rintro ⟨⟨e, -⟩ | ⟨e, -⟩ | ⟨e, -⟩ | ⟨k4,b1⟩,⟨l1,l2,l3,l4⟩, -⟩
  ·omega
  ·omega
  ·omega
  ·exact .inr (.inr (.inr ⟨k4,l1,by omega,by omega,by omega,l2,l3,l4⟩))
 ·rintro (⟨e, -⟩ | ⟨e, -⟩ | ⟨e, -⟩ | ⟨k4,h1,h2,h3,h4,h5,h6,h7⟩)
  ·omega
  ·omega
  ·omega
  ·exact ⟨.inr (.inr (.inr ⟨k4,by omega⟩)),⟨h1,h5,h6,h7⟩,⟨all_nil h2,all_nil h3,all_nil h4⟩,keys_nil h3⟩
def W1 (h:List Cl):Prop:=(∀ c ∈ h,Y5 h c)∧o0 0 h≤20000
theorem c0m (h:List Cl):(W1 h∧b3Z h=0)∨(¬ W1 h∧b3Z h=210):=by
 unfold W1 b3Z
 by_cases ht:o0 0 h>20000
 ·rw [if_pos ht];exact .inr ⟨fun hp=>by omega,rfl⟩
 ·rw [if_neg ht]
  by_cases hc:∀ c ∈ h,Y5 h c
  ·rw [if_pos (show ∀ c ∈ h,a0B c∧b4o c∧a5P h c from fun c hh=>(b7H h c).2 (hc c hh))];exact .inl ⟨⟨hc,by omega⟩,rfl⟩
  ·rw [if_neg (show ¬ ∀ c ∈ h,a0B c∧b4o c∧a5P h c from fun hp=>hc fun c hh=>(b7H h c).1 (hp c hh))];exact .inr ⟨fun hp=>hc hp.1,rfl⟩
theorem b6o (c:Cl):∀ (l:List Cl) (n:Int),o0 n (l++[c])=IntKind.i64.wrap (o0 n l+c.size)
 | [],_=>rfl
 | _::l,_=>b6o c l _
theorem a9O {c c':Cl} (hs:c'.size=c.size):∀ (l:List Cl) (j:Nat) (n:Int),l[j]?=some c→o0 n (l.set j c')=o0 n l
 | [],j,n,h=>by simp at h
 | x::l,0,n,h=>by
   simp only [List.getElem?_cons_zero,Option.some.injEq] at h
   subst h
   simp only [List.set_cons_zero,o0,hs]
 | x::l,j+1,n,h=>by
   simp only [List.getElem?_cons_succ] at h
   simp only [List.set_cons_succ,o0]
   exact a9O hs l j _ h
theorem a9k {h more:List Cl} {o:Ob} (hf:fits h o):fits (h++more) o:=by
 refine ⟨hf.1,fun hk=>?_⟩
 obtain ⟨c,hc,h1⟩:=hf.2 hk
 exact ⟨c,by rw [List.getElem?_append_left (List.getElem?_eq_some_iff.1 hc).1];exact hc,h1⟩
theorem a1C {h h':List Cl} (hm:∀ o,fits h o→fits h' o) {c:Cl} (hc:Y5 h c):Y5 h' c:=by
 unfold Y5 at*
 rcases hc with h1 | ⟨k,a,b,f,r⟩ | ⟨k,a,b,c1,c2,c3,c4,c5,f,g,r⟩ | h1
 ·exact .inl h1
 ·exact .inr (.inl ⟨k,a,b,fun o ho=>hm o (f o ho),r⟩)
 ·exact .inr (.inr (.inl ⟨k,a,b,c1,c2,c3,c4,c5,fun o ho=>hm o (f o ho),fun o ho=>hm o (g o ho),r⟩))
 ·exact .inr (.inr (.inr h1))
theorem b7z {h:List Cl} {j:Nat} {c c':Cl} (hc:h[j]?=some c) (hk:c'.kind=c.kind) (hl:c'.kind=3∨c'.kind=4∨c'.length=c.length) {o:Ob} (hf:fits h o):fits (h.set j c') o:=by
 refine ⟨hf.1,fun hx=>?_⟩
 obtain ⟨d,hd,h1,h2⟩:=hf.2 hx
 by_cases e:o.ref.toNat=j
 ·subst e
  rw [hd] at hc
  cases hc
  refine ⟨c',by rw [List.getElem?_set_self (List.getElem?_eq_some_iff.1 hd).1],by rw [hk];exact h1,fun h9=>?_⟩
  have:c'.length=c.length:=by
   rcases hl with hl | hl | hl
   ·exfalso
    rw [hk,h1] at hl
    rcases a4g o.kind with q | q | q | q | q <;>omega
   ·exfalso
    rw [hk,h1] at hl
    rcases a4g o.kind with q | q | q | q | q <;>omega
   ·exact hl
  rw [this]
  exact h2 h9
 ·exact ⟨d,by rw [List.getElem?_set_ne (fun h=>e h.symm)];exact hd,h1,h2⟩
theorem b0s {h:List Cl} {j:Nat} {c c':Cl} (hv:W1 h) (hc:h[j]?=some c) (hk:c'.kind=c.kind) (hl:c'.kind=3∨c'.kind=4∨c'.length=c.length) (hs:c'.size=c.size) (hr:Y5 h c'):W1 (h.set j c'):=by
 refine ⟨fun d hd=>?_,by rw [a9O hs h j 0 hc];exact hv.2⟩
 rcases List.mem_or_eq_of_mem_set hd with hd | rfl
 ·exact a1C (fun o ho=>b7z hc hk hl ho) (hv.1 d hd)
 ·exact a1C (fun o ho=>b7z hc hk hl ho) hr
end Go.Ab.Td
namespace Go.Ab.Td
set_option maxRecDepth 100000
set_option maxRecDepth 100000
open Go Go.Ab
def c6I (a b c z:AV):List AV:=[a,b,c,.emp 3,.pv (.int .i64 (0)),.pv (.int .i64 (0)),.pv (.int .i64 (0)),.pv (.int .i64 (0)),.pv (.int .i64 (0)),.pv (.int .i64 (0)),.pv (.int .i64 (0)),.emp 7,.pv (.int .i64 (0)),.pv (.int .i64 (0)),.pv (.int .i64 (0)),.pv (.int .i64 (0)),.pv (.int .i64 (0)),.pv (.int .i64 (0)),.pv (.int .i64 (0)),.pv (.int .i64 (0)),.pv (.int .i64 (0)),.pv (.int .i64 (0)),.pv (.int .i64 (0)),.pv (.int .i64 (0)),.pv (.int .i64 (0)),.pv (.int .i64 (0)),.pv (.int .i64 (0)),.pv (.int .i64 (0)),.pv (.int .i64 (0)),.pv (.int .i64 (0)),.pv (.int .i64 (0)),.pv (.int .i64 (0)),.pv (.bool false),.pv (.bool false),.emp 47,.pv (.int .i64 (0)),.pv (.int .i64 (0)),.pv (.int .i64 (0)),.pv (.int .i64 (0)),.pv (.int .i64 (0)),.pv (.int .i64 (0)),.pv (.int .i64 (0)),.pv (.int .i64 (0)),.emp 1,.pv (.int .i64 (0)),.pv (.int .i64 (0)),.emp 2,.pv (.int .i64 (0)),.pv (.bool false),.pv (.int .i64 (0)),.pv (.str []),.pv (.int .i64 (0)),.pv (.int .i64 (0)),.pv (.int .i64 (0)),.pv (.int .i64 (0)),.pv (.int .i64 (0)),.pv (.int .i64 (0)),.pv (.int .i64 (0)),.pv (.int .i64 (0)),.pv (.int .i64 (0)),.pv (.int .i64 (0)),.pv (.int .i64 (0)),.emp 57,.emp 47,.emp 3,.pv (.str []),z]
def stV (o d h z:PV):PV:=.agg [o,d,h,.emp 3,.int .i64 (0),.int .i64 (0),.int .i64 (0),.int .i64 (0),.int .i64 (0),.int .i64 (0),.int .i64 (0),.emp 7,.int .i64 (0),.int .i64 (0),.int .i64 (0),.int .i64 (0),.int .i64 (0),.int .i64 (0),.int .i64 (0),.int .i64 (0),.int .i64 (0),.int .i64 (0),.int .i64 (0),.int .i64 (0),.int .i64 (0),.int .i64 (0),.int .i64 (0),.int .i64 (0),.int .i64 (0),.int .i64 (0),.int .i64 (0),.int .i64 (0),.bool false,.bool false,.emp 47,.int .i64 (0),.int .i64 (0),.int .i64 (0),.int .i64 (0),.int .i64 (0),.int .i64 (0),.int .i64 (0),.int .i64 (0),.emp 1,.int .i64 (0),.int .i64 (0),.emp 2,.int .i64 (0),.bool false,.int .i64 (0),.str [],.int .i64 (0),.int .i64 (0),.int .i64 (0),.int .i64 (0),.int .i64 (0),.int .i64 (0),.int .i64 (0),.int .i64 (0),.int .i64 (0),.int .i64 (0),.int .i64 (0),.emp 57,.emp 47,.emp 3,.str [],z]
theorem c0C {H:List (List PV)} (hH:a5m H) {n:Int} (hn:0≤n):0≤k9 H 3 n∧k9 H 3 n<H.length:=by
 obtain ⟨more,rfl,hm,hall⟩:=hH
 have hpos:∃ c:Nat,(idxs 3 0 (Y8++more)).length=c+1:=by
  rw [a7f]
  exact ⟨_,rfl⟩
 obtain ⟨c,hc⟩:=hpos
 have hj:0≤n.tmod ((c+1:Nat):Int)∧n.tmod ((c+1:Nat):Int)<((c+1:Nat):Int):=⟨Int.tmod_nonneg _ hn,Int.tmod_lt_of_pos _ (by omega)⟩
 unfold k9
 rw [hc]
 obtain ⟨r,hr⟩:∃ r,(idxs 3 0 (Y8++more))[(n.tmod ((c+1:Nat):Int)).toNat]?=some r:=⟨_,List.getElem?_eq_getElem (by omega)⟩
 rw [hr]
 obtain ⟨j,rfl,_,h3,_⟩:=a9H 3 _ 0 r (List.mem_of_getElem? hr)
 simp only []
 omega
def c6k (D H:List (List PV)):Prop:=2≤D.length∧D.length≤6∧∀ r ∈ D,∃ j:Int,r=a0c j∧0≤j∧j<H.length
section
variable (cells ops e9 H:List (List PV))
def drB:Nat × Option d7:=(0,some (.box 3 [[.pv (.sl 5 cells),.pv (.sl 5 ops),.pv (.sl 1 e9)]] false))
def zB:Nat × Option d7:=(1,some (.box 67 [c6I (.emp 7) (.emp 7) (.emp 7) (.pv (.int .i64 0))] false))
def sTm (k v:Nat) (w:Int):T:=(((T.nil.set d6 1 (.ptr 0 0 0)).set d6 2 (.ptr 1 0 0)).set d6 3 (.ptr k 0 0)).set d6 v (.pv (.int .i64 w))
def sSt (k:Nat) (v:Int) (c d:Nat) (D:List (List PV)):List (List PV)→St
 | []=>⟨sTm 2 k v,[drB cells ops e9,zB,(2,some (.box 67 [c6I (.emp 7) (.own 3 0 d) (.pv (.sl 7 H)) (.pv (.int .i64 1))] false)),(3,some (.arr 7 D false))],4,63⟩
 | x::L=>⟨sTm 2 k v,[drB cells ops e9,zB,(2,some (.box 67 [c6I (.own 3 0 c) (.own 4 0 d) (.pv (.sl 7 H)) (.pv (.int .i64 1))] false)),(3,some (.arr 7 (x::L) false)),(4,some (.arr 7 D false))],5,63⟩
end
attribute [local irreducible] f0
end Go.Ab.Td
namespace Go.Ab.Td
set_option maxRecDepth 100000
set_option maxRecDepth 100000
open Go Go.Ab
variable {P:Program}
namespace First
def tb (g:Nat):Option n4:=match g==l8 with | true=>some P2 | false=>match g==w9 with | true=>some a0R | false=>none
def tc (g:Nat):Option n4:=match g==C5 with | true=>some H3 | false=>tb g
def to (g:Nat):Option n4:=match g==u1 with | true=>some L4 | false=>none
theorem c5y (C:Laid P):∀ g c,tb g=some c→b9 P g c=true:=by
 intro g c h
 unfold tb at h
 split at h
 ·rename_i hg;cases h;rw [beq_iff_eq] at hg;subst hg;exact V0 C
 ·split at h
  ·rename_i hg;cases h;rw [beq_iff_eq] at hg;subst hg;exact a3a C
  ·cases h
theorem c7Y (C:Laid P):∀ g c,tc g=some c→b9 P g c=true:=by
 intro g c h
 unfold tc at h
 split at h
 ·rename_i hg;cases h;rw [beq_iff_eq] at hg;subst hg;exact a0e C
 ·exact c5y C g c h
theorem c7w (C:Laid P):∀ g c,to g=some c→b9 P g c=true:=by
 intro g c h
 unfold to at h
 split at h
 ·rename_i hg;cases h;rw [beq_iff_eq] at hg;subst hg;exact X5 C
 ·cases h
theorem run:isR [(0,0)] (.sl 7 Y8) ((a4S G kn0 noX tb noT tc to 10000 20).call u1 [.sl 1 [[.str b4a],[.str b4i]]])=true:=by kernel_rfl
theorem ok (C:Laid P):j7 P G u1 [.sl 1 [[.str b4a],[.str b4i]]] [(0,0)] (.sl 7 Y8):=
 a7B C.mixed (fun _ _ _ _ h=>by cases h) (fun _ _ h=>by cases h) (c5y C) (fun _ _ h=>by cases h) (c7Y C) (c7w C) (b6w run)
end First
end Go.Ab.Td
namespace Go.Ab.Td
set_option maxRecDepth 100000
set_option maxRecDepth 100000
open Go Go.Ab
variable {P:Program}
theorem a6R (C:Laid P) {g:Nat} {c:n4} {ps:List PV} {r:PV} (hk:b9 P g c=true) (hl:ps.length=c.nparams) (h:fnW G (j7 P G) noX noT noT 0 c ps r):j7 P G g ps [] r:=
 b5c C.mixed hk (fun _ _ h=>by cases h) (fun _ _ h=>by cases h) (fun _ _ h=>by cases h) hl h
theorem c3j (C:Laid P) (rows:List (List PV)) (hr:∀ r ∈ rows,a3q r) (hl:rows.length≤1000000) (kind n:Int) (hn:0≤n):j7 P G K8 [.sl 7 rows,.int .i64 kind,.int .i64 n] [] (.int .i64 (k9 rows kind n)):=
 a6R C (a9e C) rfl (b7J _ rows kind n (fun r h=>(hr r h).k) hl hn)
section
variable (C:Laid P) (rows:List (List PV)) (hr:∀ r ∈ rows,a3q r) (hl:rows.length≤1000000) (kd K A B N:Int) (S:List UInt8) (hA:0≤A∧A<256) (hB:0≤B∧B<256)
include C hr hl hA
end
theorem b7E (C:Laid P) (n:Int):j7 P G l8 [.int .i64 n] [] (b7q n):=a6R C (V0 C) rfl (by (conv=>whnf);rfl)
theorem b7k (C:Laid P) (s:List UInt8):j7 P G w9 [.str s] [] (b6V s):=a6R C (a3a C) rfl (by (conv=>whnf);rfl)
theorem a5m.all {H:List (List PV)} (h:a5m H):(∀ r ∈ H,a3q r)∧H.length≤1000000:=by
 obtain ⟨more,rfl,h1,h2⟩:=h
 exact ⟨h2,by simp [Y8];omega⟩
end Go.Ab.Td
namespace Go.Ab.Td
set_option maxRecDepth 100000
set_option maxRecDepth 100000
open Go Go.Ab
variable {P:Program}
theorem b9B {g:Nat} {ps:List PV} {p r:PV} (h:j7 P G g ps [] p) (hl:PV.le p r):j7 P G g ps [] r:=by
 intro w I vs hb hg ha
 obtain ⟨h1,h2⟩:=h w I vs hb hg ha
 refine ⟨h1,CallsIn.mono h2 fun e w' he=>?_⟩
 cases e with
 | returned v=>
   obtain ⟨I',a,b,c,d⟩:=he
   refine ⟨I',a,b,c,fun nm=>?_⟩
   obtain ⟨ι,e1,e2⟩:=d nm
   cases e2 with
   | pv hp=>exact ⟨ι,e1,.pv (hp.le hl)⟩
 | _=>exact he.elim
theorem c8M {r:List PV} (h:a3G r):∃ o:Ob,r=i6 o∧o.n<9223372036854775808:=by
 obtain ⟨k,e,n,s,rf,o,l,hn,rfl⟩:=h
 exact ⟨⟨k,e,n,s,rf,o,l⟩,rfl,hn⟩
theorem c5x:∀ {rr:List (List PV)},(∀ x ∈ rr,a3G x)→∃ l:List Ob,rr=l.map i6∧∀ o ∈ l,o.n<9223372036854775808
 | [],_=>⟨[],rfl,by simp⟩
 | r::rr,h=>by
   obtain ⟨o,rfl,hn⟩:=c8M (h r (by simp))
   obtain ⟨l,rfl,hl⟩:=c5x (rr:=rr) fun x hx=>h x (by simp [hx])
   refine ⟨o::l,rfl,?_⟩
   intro x hx
   rcases List.mem_cons.1 hx with rfl | hx
   ·exact hn
   ·exact hl x hx
def a7O (c:Cl):Prop:=c.small∧(∀ o ∈ c.w7,o.n<9223372036854775808)∧a3q (j9 c)
theorem b0i {l:List Ob} (h:l.length≤1000) (hn:∀ o ∈ l,o.n<9223372036854775808):SlR (.sl 7 (l.map i6)) l.length:=.inr ⟨_,rfl,by simp,h,fun x hx=>by
 obtain ⟨o,ho,rfl⟩:=List.mem_map.1 hx
 exact ⟨_,_,_,_,_,_,_,hn o ho,rfl⟩⟩
theorem a7O.shape {c:Cl} (h:a7O c):(c.kind=1→c.items=[]∧c.bytes.length≤1000)∧(c.kind=2→c.bytes=[]∧c.items.length≤1000):=by
 obtain ⟨-, -,k,b,q1,q2,q3,mx,a,m1,m2,m3,he,hb,h1,h2,h3⟩:=h
 simp only [j9,List.cons.injEq,PV.int.injEq,PV.str.injEq,true_and] at he
 obtain ⟨e1,e2,e3, -⟩:=he
 subst e1 e2 e3
 rcases h1 with ⟨h1, -⟩ | ⟨rr,h1,hl,hm, -⟩
 ·cases h1
 ·simp only [PV.sl.injEq,true_and] at h1
  subst h1
  simp only [List.length_map] at hl
  subst hl
  exact ⟨fun hk=>⟨List.eq_nil_of_length_eq_zero (hb.2.1 hk).2,(hb.2.1 hk).1⟩,fun hk=>⟨hb.2.2 hk,hm⟩⟩
def dct (k v:List Ob) (m:Int):Cl:=⟨3,[],[],k,v,m,0⟩
def opO (s:List UInt8):Ob:=⟨10,true,0,s,0,0,0⟩
def dO (n:Int):Ob:=⟨9,false,0,[],n,0,0⟩
def c5Z:Cl:=dct (b8Q.map nmO) [dO 5,dO 6,dO 7,dO 8,dO 9] 5
def a1x:List Cl:=[dct [nmO b4a,nmO b4i] [opO b4a,opO b4i] 200,dct [] [] 50,dct [] [] 30,dct [] [] 12,c5Z,dct [] [] 10,dct [] [] 10,dct [] [] 10,dct [] [] 10,dct [] [] 10]
theorem b7G (m:Int):H8 (S5 (.emp 7) (.emp 7) m) (j9 (dct [] [] m)):=.cons (.refl _) (.cons (.refl _) (.cons (.emp 7) (.cons (.emp 7) (.cons (.emp 7) (.refl _)))))
theorem c8a (k v:List Ob) (m:Int):H8 (S5 (.sl 7 (k.map i6)) (.sl 7 (v.map i6)) m) (j9 (dct k v m)):=.cons (.refl _) (.cons (.refl _) (.cons (.emp 7) (.refl _)))
theorem c3T:LeR Y8 (a1x.map j9):=
 .cons (c8a [nmO b4a,nmO b4i] [opO b4a,opO b4i] 200) (.cons (b7G 50) (.cons (b7G 30) (.cons (b7G 12) (.cons (c8a (b8Q.map nmO) [dO 5,dO 6,dO 7,dO 8,dO 9] 5)
  (.cons (b7G 10) (.cons (b7G 10) (.cons (b7G 10) (.cons (b7G 10) (.cons (b7G 10) .nil)))))))))
theorem c3L:∀ c ∈ a1x,a7O c:=by
 intro c hc
 simp only [a1x,List.mem_cons,List.not_mem_nil,or_false] at hc
 rcases hc with rfl | rfl | rfl | rfl | rfl | rfl | rfl | rfl | rfl | rfl <;>(refine ⟨⟨by decide,by decide,by decide,by decide⟩,by decide,⟨_,_,_,_,_,_,_,_,_,_,rfl,⟨by decide,by decide,by decide⟩,b0i (by decide) (by decide),b0i (by decide) (by decide),b0i (by decide) (by decide)⟩⟩)
def a2E (h:List Cl):Prop:=∃ more,h=a1x++more∧more.length≤10∧∀ c ∈ h,a7O c
theorem a2E.rows {h:List Cl} (t:a2E h):(∀ r ∈ h.map j9,a3q r)∧(h.map j9).length≤1000000:=by
 obtain ⟨more,rfl,hm,hall⟩:=t
 refine ⟨fun r hr=>?_,by simp [a1x];omega⟩
 obtain ⟨c,hc,rfl⟩:=List.mem_map.1 hr
 exact (hall c hc).2.2
theorem a2E.small {h:List Cl} (t:a2E h):small h:=by
 obtain ⟨more,rfl,hm,hall⟩:=t
 exact ⟨by simp [a1x];omega,fun c hc=>(hall c hc).1⟩
def mkS (ops e9:List Ob) (heap:List Cl):F2:=⟨ops,e9,heap,[],0,0,0,0,0,0,0,[],0,0,0,0,0,0,0,0,0,0,0,0,0,0,0,0,0,0,0,0,false,false,[],0,0,0,0,0,0,0,0,[],0,0,[],0,false,0,[],0,0,0,0,0,0,0,0,0,0,0,[],[],[],[],1⟩
def c6f (s:F2):Prop:=∃ ops e9 heap,s=mkS ops e9 heap∧a2E heap∧ops.length≤20∧(∀ o ∈ ops,o.n<9223372036854775808)∧2≤e9.length∧e9.length≤6∧∀ o ∈ e9,∃ j:Int,o=dO j∧0≤j∧j<heap.length
end Go.Ab.Td

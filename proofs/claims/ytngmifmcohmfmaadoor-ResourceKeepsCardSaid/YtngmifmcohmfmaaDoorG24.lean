/- A part of the proof: the texts TdRD, TdRE, TdRF, TdRG, TdRH, TdRI, TdKj, TdKk, TdKl, TdKm, TdVp. Under: nothing. -/
import Derived.Test.YtngmifmcohmfmaaDoorG22
import Derived.Test.YtngmifmcohmfmaaDoorG23
set_option linter.unusedVariables false
namespace Go.Ab.Td
set_option maxRecDepth 100000
open Go Go.Ab
variable {P:Program}
set_option linter.unusedSimpArgs false
attribute [local irreducible] j6
end Go.Ab.Td
namespace Go.Ab.Td
set_option maxRecDepth 100000
open Go Go.Ab
variable {P:Program}
set_option linter.unusedSimpArgs false
attribute [local irreducible] j6
end Go.Ab.Td
namespace Go.Ab.Td
set_option maxRecDepth 100000
open Go Go.Ab
variable {P:Program}
set_option linter.unusedSimpArgs false
attribute [local irreducible] j6
end Go.Ab.Td
namespace Go.Ab.Td
set_option maxRecDepth 100000
open Go Go.Ab
variable {P:Program}
set_option linter.unusedSimpArgs false
attribute [local irreducible] j6
end Go.Ab.Td
namespace Go.Ab.Td
set_option maxRecDepth 100000
open Go Go.Ab
variable {P:Program}
set_option linter.unusedSimpArgs false
attribute [local irreducible] j6
end Go.Ab.Td
namespace Go.Ab.Td
set_option maxRecDepth 100000
open Go Go.Ab
variable {P:Program}
set_option linter.unusedSimpArgs false
attribute [local irreducible] j6
noncomputable def oct (h:List Cl) (o:Ob):Option (List UInt8):=if o.kind=5 then some o.name else if o.kind=6 then some (sub h o) else none
end Go.Ab.Td
namespace Go.Ab.Td
set_option maxRecDepth 100000
open Go Go.Ab
variable {P:Program}
set_option linter.unusedSimpArgs false
attribute [local irreducible] j6
end Go.Ab.Td
namespace Go.Ab.Td
set_option maxRecDepth 100000
open Go Go.Ab
variable {P:Program}
set_option linter.unusedSimpArgs false
attribute [local irreducible] j6
def c6g (l:List Ob) (i:Nat) (k:Ob):Prop:=k.kind≠0∧k.kind≠6∧k.key=k∧(i:Int)≤i9 k 0 l
def b2v (l:List Ob):Prop:=∀ (i:Nat) (k:Ob),l[i]?=some k→c6g l i k
end Go.Ab.Td
namespace Go.Ab.Td
set_option maxRecDepth 100000
open Go Go.Ab
variable {P:Program}
set_option linter.unusedSimpArgs false
attribute [local irreducible] j6
def T5 (h:List Cl) (c:Cl):Prop:=
 (c.kind=1∧(c.bytes.length≤1000∧c.items.length=0∧c.keys.length=0∧c.v3.length=0∧c.max=0∧c.at'=0))∨
 (c.kind=2∧(c.bytes=[]∧c.items.length≤1000∧(∀ o ∈ c.items,fits h o)∧c.keys.length=0∧c.v3.length=0∧c.max=0∧c.at'=0))∨
 (c.kind=3∧(c.bytes=[]∧c.items.length=0∧c.at'=0∧0≤c.max∧c.max≤200∧c.keys.length=c.v3.length∧(c.keys.length:Int)≤c.max∧(∀ o ∈ c.keys,fits h o)∧(∀ o ∈ c.v3,fits h o)∧b2v c.keys))∨
 (c.kind=4∧(c.bytes.length≤4000∧c.items.length=0∧c.keys.length=0∧c.v3.length=0∧0≤c.at'∧c.at'≤c.bytes.length∧(c.max=0∨c.max=1)))
end Go.Ab.Td
namespace Go.Ab.Td
set_option maxRecDepth 100000
open Go Go.Ab
variable {P:Program}
set_option linter.unusedSimpArgs false
attribute [local irreducible] j6
end Go.Ab.Td
namespace Go.Ab.Td
set_option maxRecDepth 100000
set_option maxRecDepth 100000
open Go Go.Ab
set_option linter.unusedSimpArgs false
theorem a4f (k:Ob):∀ (l:List Ob) (i s:Nat),l[i]?=some k→(k ∈ l.take i↔i9 k s l<s+i)
 | [],_,_,h=>by simp at h
 | x::l,0,s,h=>by
   simp only [List.getElem?_cons_zero,Option.some.injEq] at h
   subst h
   simp [i9]
 | x::l,i+1,s,h=>by
   simp only [List.getElem?_cons_succ] at h
   have ih:=a4f k l i (s+1) h
   simp only [List.take_succ_cons,List.mem_cons]
   unfold i9
   by_cases e:x=k
   ·rw [if_pos e];simp [e];omega
   ·rw [if_neg e,ih]
    constructor
    ·rintro (e2 | e2)
     ·exact absurd e2.symm e
     ·omega
    ·intro e2;right;omega
theorem b4x {l:List Ob} (hr:∀ o ∈ l,o.right):b3r l↔b2v l:=by
 unfold b3r b2v
 refine forall_congr' fun i=>forall_congr' fun k=>⟨fun h hk=>?_,fun h hk=>?_⟩
 ·obtain ⟨h1,h2⟩:=h hk
  have r:=hr k (List.mem_of_getElem? hk)
  rw [a4f k l i 0 hk] at h2
  unfold b1d at h1
  rw [if_neg (fun h=>h r)] at h1
  by_cases h06:k.kind=0∨k.kind=6
  ·rw [if_pos h06] at h1
   simp at h1
  ·rw [if_neg h06] at h1
   simp only [Prod.mk.injEq,and_true] at h1
   exact ⟨by omega,by omega,h1,by omega⟩
 ·obtain ⟨h1,h2,h3,h4⟩:=h hk
  have r:=hr k (List.mem_of_getElem? hk)
  rw [a4f k l i 0 hk]
  unfold b1d
  rw [if_neg (fun h=>h r),if_neg (by omega),h3]
  exact ⟨rfl,by omega⟩
theorem c4m {p:Ob→Prop} {a b c:List Ob}:(∀ l ∈ [a,b,c],∀ o ∈ l,p o)↔((∀ o ∈ a,p o)∧(∀ o ∈ b,p o)∧(∀ o ∈ c,p o)):=by
 simp
theorem keys_nil {l:List Ob} (h:l.length=0):b3r l:=by
 rw [List.length_eq_zero_iff.1 h]
 intro i k hk
 simp at hk
theorem all_nil {p:Ob→Prop} {l:List Ob} (h:l.length=0):∀ o ∈ l,p o:=by
 rw [List.length_eq_zero_iff.1 h];simp
theorem b4e (h:List Cl) (c:Cl):b3v h c↔T5 h c:=by
 unfold b3v a5d a2M
 rw [c4m]
 unfold Z8 b1P T5
 by_cases k1:c.kind=1
 ·rw [if_pos k1]
  constructor
  ·rintro ⟨⟨-,b1,b2,b3⟩ | ⟨e, -⟩ | ⟨e, -⟩ | ⟨e, -⟩,hl, -⟩
   ·exact .inl ⟨k1,hl,by omega,by omega,by omega,b2,b3⟩
   all_goals omega
  ·rintro (⟨-,h1,h2,h3,h4,h5,h6⟩ | ⟨e, -⟩ | ⟨e, -⟩ | ⟨e, -⟩)
   ·exact ⟨.inl ⟨k1,by omega,h5,h6⟩,h1,⟨all_nil h2,all_nil h3,all_nil h4⟩,keys_nil h3⟩
   all_goals omega
 rw [if_neg k1]
 by_cases k2:c.kind=2
 ·rw [if_pos k2]
  constructor
  ·rintro ⟨⟨e, -⟩ | ⟨-,b1,b2,b3,b4⟩ | ⟨e, -⟩ | ⟨e, -⟩,hl,⟨hf, -⟩, -⟩
   ·omega
   ·exact .inr (.inl ⟨k2,b1,hl,hf,by omega,by omega,b3,b4⟩)
   all_goals omega
  ·rintro (⟨e, -⟩ | ⟨-,h1,h2,h3,h4,h5,h6,h7⟩ | ⟨e, -⟩ | ⟨e, -⟩)
   ·omega
   ·exact ⟨.inr (.inl ⟨k2,h1,by omega,h6,h7⟩),h2,⟨h3,all_nil h4,all_nil h5⟩,keys_nil h4⟩
   all_goals omega
 rw [if_neg k2]
 by_cases k3:c.kind=3
 ·rw [if_pos k3]
  constructor
  ·rintro ⟨⟨e, -⟩ | ⟨e, -⟩ | ⟨-,b1,b2,b3⟩ | ⟨e, -⟩,⟨l1,l2,l3,l4⟩,⟨-,hf,hv⟩,hk⟩
   ·omega
   ·omega
   ·exact .inr (.inr (.inl ⟨k3,b1,b2,b3,l1,l2,l3,l4,hf,hv,(b4x fun o ho=>(hf o ho).1).1 hk⟩))
   ·omega
  ·rintro (⟨e, -⟩ | ⟨e, -⟩ | ⟨-,h1,h2,h3,h4,h5,h6,h7,h8,h9,h10⟩ | ⟨e, -⟩)
   ·omega
   ·omega
   ·exact ⟨.inr (.inr (.inl ⟨k3,h1,h2,h3⟩)),⟨h4,h5,h6,h7⟩,⟨all_nil h2,h8,h9⟩,(b4x fun o ho=>(h8 o ho).1).2 h10⟩
   ·omega
 rw [if_neg k3]
 constructor
 ·rintro ⟨⟨e, -⟩ | ⟨e, -⟩ | ⟨e, -⟩ | ⟨k4,b1⟩,⟨l1,l2,l3,l4⟩, -⟩
  ·omega
  ·omega
  ·omega
  ·exact .inr (.inr (.inr ⟨k4,l1,by omega,by omega,by omega,l2,l3,l4⟩))
 ·rintro (⟨e, -⟩ | ⟨e, -⟩ | ⟨e, -⟩ | ⟨k4,h1,h2,h3,h4,h5,h6,h7⟩)
  ·omega
  ·omega
  ·omega
  ·exact ⟨.inr (.inr (.inr ⟨k4,by omega⟩)),⟨h1,h5,h6,h7⟩,⟨all_nil h2,all_nil h3,all_nil h4⟩,keys_nil h3⟩
def a5r (h:List Cl):Prop:=(∀ c ∈ h,T5 h c)∧F3 0 h≤20000
theorem b7c (h:List Cl):(a5r h∧b1G h=0)∨(¬ a5r h∧b1G h=210):=by
 unfold a5r b1G
 by_cases ht:F3 0 h>20000
 ·rw [if_pos ht];exact .inr ⟨fun hp=>by omega,rfl⟩
 ·rw [if_neg ht]
  by_cases hc:∀ c ∈ h,T5 h c
  ·rw [if_pos (show ∀ c ∈ h,Z8 c∧b1P c∧a5d h c from fun c hh=>(b4e h c).2 (hc c hh))];exact .inl ⟨⟨hc,by omega⟩,rfl⟩
  ·rw [if_neg (show ¬ ∀ c ∈ h,Z8 c∧b1P c∧a5d h c from fun hp=>hc fun c hh=>(b4e h c).1 (hp c hh))];exact .inr ⟨fun hp=>hc hp.1,rfl⟩
theorem b6L (c:Cl):∀ (l:List Cl) (n:Int),F3 n (l++[c])=IntKind.i64.wrap (F3 n l+c.size)
 | [],_=>rfl
 | _::l,_=>b6L c l _
theorem b6M {c c':Cl} (hs:c'.size=c.size):∀ (l:List Cl) (j:Nat) (n:Int),l[j]?=some c→F3 n (l.set j c')=F3 n l
 | [],j,n,h=>by simp at h
 | x::l,0,n,h=>by
   simp only [List.getElem?_cons_zero,Option.some.injEq] at h
   subst h
   simp only [List.set_cons_zero,F3,hs]
 | x::l,j+1,n,h=>by
   simp only [List.getElem?_cons_succ] at h
   simp only [List.set_cons_succ,F3]
   exact b6M hs l j _ h
theorem b4n {h more:List Cl} {o:Ob} (hf:fits h o):fits (h++more) o:=by
 refine ⟨hf.1,fun hk=>?_⟩
 obtain ⟨c,hc,h1⟩:=hf.2 hk
 exact ⟨c,by rw [List.getElem?_append_left (List.getElem?_eq_some_iff.1 hc).1];exact hc,h1⟩
theorem a4M {h h':List Cl} (hm:∀ o,fits h o→fits h' o) {c:Cl} (hc:T5 h c):T5 h' c:=by
 unfold T5 at*
 rcases hc with h1 | ⟨k,a,b,f,r⟩ | ⟨k,a,b,c1,c2,c3,c4,c5,f,g,r⟩ | h1
 ·exact .inl h1
 ·exact .inr (.inl ⟨k,a,b,fun o ho=>hm o (f o ho),r⟩)
 ·exact .inr (.inr (.inl ⟨k,a,b,c1,c2,c3,c4,c5,fun o ho=>hm o (f o ho),fun o ho=>hm o (g o ho),r⟩))
 ·exact .inr (.inr (.inr h1))
theorem a7Z {h:List Cl} {j:Nat} {c c':Cl} (hc:h[j]?=some c) (hk:c'.kind=c.kind) (hl:c'.kind=3∨c'.kind=4∨c'.length=c.length) {o:Ob} (hf:fits h o):fits (h.set j c') o:=by
 refine ⟨hf.1,fun hx=>?_⟩
 obtain ⟨d,hd,h1,h2⟩:=hf.2 hx
 by_cases e:o.ref.toNat=j
 ·subst e
  rw [hd] at hc
  cases hc
  refine ⟨c',by rw [List.getElem?_set_self (List.getElem?_eq_some_iff.1 hd).1],by rw [hk];exact h1,fun h9=>?_⟩
  have:c'.length=c.length:=by
   rcases hl with hl | hl | hl
   ·exfalso
    rw [hk,h1] at hl
    rcases a9p o.kind with q | q | q | q | q <;>omega
   ·exfalso
    rw [hk,h1] at hl
    rcases a9p o.kind with q | q | q | q | q <;>omega
   ·exact hl
  rw [this]
  exact h2 h9
 ·exact ⟨d,by rw [List.getElem?_set_ne (fun h=>e h.symm)];exact hd,h1,h2⟩
theorem b8s {h:List Cl} {j:Nat} {c c':Cl} (hv:a5r h) (hc:h[j]?=some c) (hk:c'.kind=c.kind) (hl:c'.kind=3∨c'.kind=4∨c'.length=c.length) (hs:c'.size=c.size) (hr:T5 h c'):a5r (h.set j c'):=by
 refine ⟨fun d hd=>?_,by rw [b6M hs h j 0 hc];exact hv.2⟩
 rcases List.mem_or_eq_of_mem_set hd with hd | rfl
 ·exact a4M (fun o ho=>a7Z hc hk hl ho) (hv.1 d hd)
 ·exact a4M (fun o ho=>a7Z hc hk hl ho) hr
end Go.Ab.Td

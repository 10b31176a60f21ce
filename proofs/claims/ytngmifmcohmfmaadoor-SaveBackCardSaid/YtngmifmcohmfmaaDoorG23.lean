/- A part of the proof: the texts TdVp, TdState, TdKitF, TdKit. Under: nothing. -/
import Derived.Test.YtngmifmcohmfmaaDoorG22
import Derived.Test.YtngmifmcohmfmaaDoorG17
import Derived.Test.YtngmifmcohmfmaaDoorG05
set_option linter.unusedVariables false
namespace Go.Ab.Td
set_option maxRecDepth 100000
set_option maxRecDepth 100000
open Go Go.Ab
set_option linter.unusedSimpArgs false
theorem a5t (k:Ob):∀ (l:List Ob) (i s:Nat),l[i]?=some k→(k ∈ l.take i↔j1 k s l<s+i)
 | [],_,_,h=>by simp at h
 | x::l,0,s,h=>by
   simp only [List.getElem?_cons_zero,Option.some.injEq] at h
   subst h
   simp [j1]
 | x::l,i+1,s,h=>by
   simp only [List.getElem?_cons_succ] at h
   have ih:=a5t k l i (s+1) h
   simp only [List.take_succ_cons,List.mem_cons]
   unfold j1
   by_cases e:x=k
   ·rw [if_pos e];simp [e];omega
   ·rw [if_neg e,ih]
    constructor
    ·rintro (e2 | e2)
     ·exact absurd e2.symm e
     ·omega
    ·intro e2;right;omega
theorem b7M {l:List Ob} (hr:∀ o ∈ l,o.right):b6A l↔b5t l:=by
 unfold b6A b5t
 refine forall_congr' fun i=>forall_congr' fun k=>⟨fun h hk=>?_,fun h hk=>?_⟩
 ·obtain ⟨h1,h2⟩:=h hk
  have r:=hr k (List.mem_of_getElem? hk)
  rw [a5t k l i 0 hk] at h2
  unfold b6D at h1
  rw [if_neg (fun h=>h r)] at h1
  by_cases h06:k.kind=0∨k.kind=6
  ·rw [if_pos h06] at h1
   simp at h1
  ·rw [if_neg h06] at h1
   simp only [Prod.mk.injEq,and_true] at h1
   exact ⟨by omega,by omega,h1,by omega⟩
 ·obtain ⟨h1,h2,h3,h4⟩:=h hk
  have r:=hr k (List.mem_of_getElem? hk)
  rw [a5t k l i 0 hk]
  unfold b6D
  rw [if_neg (fun h=>h r),if_neg (by omega),h3]
  exact ⟨rfl,by omega⟩
theorem c7O {p:Ob→Prop} {a b c:List Ob}:(∀ l ∈ [a,b,c],∀ o ∈ l,p o)↔((∀ o ∈ a,p o)∧(∀ o ∈ b,p o)∧(∀ o ∈ c,p o)):=by
 simp
theorem keys_nil {l:List Ob} (h:l.length=0):b6A l:=by
 rw [List.length_eq_zero_iff.1 h]
 intro i k hk
 simp at hk
theorem all_nil {p:Ob→Prop} {l:List Ob} (h:l.length=0):∀ o ∈ l,p o:=by
 rw [List.length_eq_zero_iff.1 h];simp
theorem b7s (h:List Cl) (c:Cl):b6E h c↔Y7 h c:=by
 unfold b6E a6s a3O
 rw [c7O]
 unfold a0K b4G Y7
 by_cases k1:c.kind=1
 ·rw [if_pos k1]
  constructor
  ·rintro ⟨⟨-,b1,b2,b3⟩ | ⟨e, -⟩ | ⟨e, -⟩ | ⟨e, -⟩,hl, -⟩
   ·exact .inl ⟨k1,hl,by omega,by omega,by omega,b2,b3⟩
   all_goals omega
  ·rintro (⟨-,h1,h2,h3,h4,h5,h6⟩ | ⟨e, -⟩ | ⟨e, -⟩ | ⟨e, -⟩)
   ·exact ⟨.inl ⟨k1,by omega,h5,h6⟩,h1,⟨all_nil h2,all_nil h3,all_nil h4⟩,keys_nil h3⟩
   all_goals omega
 rw [if_neg k1]
 by_cases k2:c.kind=2
 ·rw [if_pos k2]
  constructor
  ·rintro ⟨⟨e, -⟩ | ⟨-,b1,b2,b3,b4⟩ | ⟨e, -⟩ | ⟨e, -⟩,hl,⟨hf, -⟩, -⟩
   ·omega
   ·exact .inr (.inl ⟨k2,b1,hl,hf,by omega,by omega,b3,b4⟩)
   all_goals omega
  ·rintro (⟨e, -⟩ | ⟨-,h1,h2,h3,h4,h5,h6,h7⟩ | ⟨e, -⟩ | ⟨e, -⟩)
   ·omega
   ·exact ⟨.inr (.inl ⟨k2,h1,by omega,h6,h7⟩),h2,⟨h3,all_nil h4,all_nil h5⟩,keys_nil h4⟩
   all_goals omega
 rw [if_neg k2]
 by_cases k3:c.kind=3
 ·rw [if_pos k3]
  constructor
  ·rintro ⟨⟨e, -⟩ | ⟨e, -⟩ | ⟨-,b1,b2,b3⟩ | ⟨e, -⟩,⟨l1,l2,l3,l4⟩,⟨-,hf,hv⟩,hk⟩
   ·omega
   ·omega
   ·exact .inr (.inr (.inl ⟨k3,b1,b2,b3,l1,l2,l3,l4,hf,hv,(b7M fun o ho=>(hf o ho).1).1 hk⟩))
   ·omega
  ·rintro (⟨e, -⟩ | ⟨e, -⟩ | ⟨-,h1,h2,h3,h4,h5,h6,h7,h8,h9,h10⟩ | ⟨e, -⟩)
   ·omega
   ·omega
   ·exact ⟨.inr (.inr (.inl ⟨k3,h1,h2,h3⟩)),⟨h4,h5,h6,h7⟩,⟨all_nil h2,h8,h9⟩,(b7M fun o ho=>(h8 o ho).1).2 h10⟩
   ·omega
 rw [if_neg k3]
 constructor
 ·rintro ⟨⟨e, -⟩ | ⟨e, -⟩ | ⟨e, -⟩ | ⟨k4,b1⟩,⟨l1,l2,l3,l4⟩, -⟩
  ·omega
  ·omega
  ·omega
  ·exact .inr (.inr (.inr ⟨k4,l1,by omega,by omega,by omega,l2,l3,l4⟩))
 ·rintro (⟨e, -⟩ | ⟨e, -⟩ | ⟨e, -⟩ | ⟨k4,h1,h2,h3,h4,h5,h6,h7⟩)
  ·omega
  ·omega
  ·omega
  ·exact ⟨.inr (.inr (.inr ⟨k4,by omega⟩)),⟨h1,h5,h6,h7⟩,⟨all_nil h2,all_nil h3,all_nil h4⟩,keys_nil h3⟩
def Y2 (h:List Cl):Prop:=(∀ c ∈ h,Y7 h c)∧o7 0 h≤20000
theorem c1l (h:List Cl):(Y2 h∧b4l h=0)∨(¬ Y2 h∧b4l h=210):=by
 unfold Y2 b4l
 by_cases ht:o7 0 h>20000
 ·rw [if_pos ht];exact .inr ⟨fun hp=>by omega,rfl⟩
 ·rw [if_neg ht]
  by_cases hc:∀ c ∈ h,Y7 h c
  ·rw [if_pos (show ∀ c ∈ h,a0K c∧b4G c∧a6s h c from fun c hh=>(b7s h c).2 (hc c hh))];exact .inl ⟨⟨hc,by omega⟩,rfl⟩
  ·rw [if_neg (show ¬ ∀ c ∈ h,a0K c∧b4G c∧a6s h c from fun hp=>hc fun c hh=>(b7s h c).1 (hp c hh))];exact .inr ⟨fun hp=>hc hp.1,rfl⟩
theorem b7e (c:Cl):∀ (l:List Cl) (n:Int),o7 n (l++[c])=IntKind.i64.wrap (o7 n l+c.size)
 | [],_=>rfl
 | _::l,_=>b7e c l _
theorem b0E {c c':Cl} (hs:c'.size=c.size):∀ (l:List Cl) (j:Nat) (n:Int),l[j]?=some c→o7 n (l.set j c')=o7 n l
 | [],j,n,h=>by simp at h
 | x::l,0,n,h=>by
   simp only [List.getElem?_cons_zero,Option.some.injEq] at h
   subst h
   simp only [List.set_cons_zero,o7,hs]
 | x::l,j+1,n,h=>by
   simp only [List.getElem?_cons_succ] at h
   simp only [List.set_cons_succ,o7]
   exact b0E hs l j _ h
theorem a9L {h more:List Cl} {o:Ob} (hf:fits h o):fits (h++more) o:=by
 refine ⟨hf.1,fun hk=>?_⟩
 obtain ⟨c,hc,h1⟩:=hf.2 hk
 exact ⟨c,by rw [List.getElem?_append_left (List.getElem?_eq_some_iff.1 hc).1];exact hc,h1⟩
theorem a1w {h h':List Cl} (hm:∀ o,fits h o→fits h' o) {c:Cl} (hc:Y7 h c):Y7 h' c:=by
 unfold Y7 at*
 rcases hc with h1 | ⟨k,a,b,f,r⟩ | ⟨k,a,b,c1,c2,c3,c4,c5,f,g,r⟩ | h1
 ·exact .inl h1
 ·exact .inr (.inl ⟨k,a,b,fun o ho=>hm o (f o ho),r⟩)
 ·exact .inr (.inr (.inl ⟨k,a,b,c1,c2,c3,c4,c5,fun o ho=>hm o (f o ho),fun o ho=>hm o (g o ho),r⟩))
 ·exact .inr (.inr (.inr h1))
theorem b7B {h:List Cl} {j:Nat} {c c':Cl} (hc:h[j]?=some c) (hk:c'.kind=c.kind) (hl:c'.kind=3∨c'.kind=4∨c'.length=c.length) {o:Ob} (hf:fits h o):fits (h.set j c') o:=by
 refine ⟨hf.1,fun hx=>?_⟩
 obtain ⟨d,hd,h1,h2⟩:=hf.2 hx
 by_cases e:o.ref.toNat=j
 ·subst e
  rw [hd] at hc
  cases hc
  refine ⟨c',by rw [List.getElem?_set_self (List.getElem?_eq_some_iff.1 hd).1],by rw [hk];exact h1,fun h9=>?_⟩
  have:c'.length=c.length:=by
   rcases hl with hl | hl | hl
   ·exfalso
    rw [hk,h1] at hl
    rcases a4k o.kind with q | q | q | q | q <;>omega
   ·exfalso
    rw [hk,h1] at hl
    rcases a4k o.kind with q | q | q | q | q <;>omega
   ·exact hl
  rw [this]
  exact h2 h9
 ·exact ⟨d,by rw [List.getElem?_set_ne (fun h=>e h.symm)];exact hd,h1,h2⟩
theorem b1r {h:List Cl} {j:Nat} {c c':Cl} (hv:Y2 h) (hc:h[j]?=some c) (hk:c'.kind=c.kind) (hl:c'.kind=3∨c'.kind=4∨c'.length=c.length) (hs:c'.size=c.size) (hr:Y7 h c'):Y2 (h.set j c'):=by
 refine ⟨fun d hd=>?_,by rw [b0E hs h j 0 hc];exact hv.2⟩
 rcases List.mem_or_eq_of_mem_set hd with hd | rfl
 ·exact a1w (fun o ho=>b7B hc hk hl ho) (hv.1 d hd)
 ·exact a1w (fun o ho=>b7B hc hk hl ho) hr
end Go.Ab.Td
namespace Go.Ab.Td
set_option maxRecDepth 100000
set_option maxRecDepth 100000
open Go Go.Ab
def c7q (a b c z:AV):List AV:=[a,b,c,.emp 3,.pv (.int .i64 (0)),.pv (.int .i64 (0)),.pv (.int .i64 (0)),.pv (.int .i64 (0)),.pv (.int .i64 (0)),.pv (.int .i64 (0)),.pv (.int .i64 (0)),.emp 7,.pv (.int .i64 (0)),.pv (.int .i64 (0)),.pv (.int .i64 (0)),.pv (.int .i64 (0)),.pv (.int .i64 (0)),.pv (.int .i64 (0)),.pv (.int .i64 (0)),.pv (.int .i64 (0)),.pv (.int .i64 (0)),.pv (.int .i64 (0)),.pv (.int .i64 (0)),.pv (.int .i64 (0)),.pv (.int .i64 (0)),.pv (.int .i64 (0)),.pv (.int .i64 (0)),.pv (.int .i64 (0)),.pv (.int .i64 (0)),.pv (.int .i64 (0)),.pv (.int .i64 (0)),.pv (.int .i64 (0)),.pv (.bool false),.pv (.bool false),.emp 47,.pv (.int .i64 (0)),.pv (.int .i64 (0)),.pv (.int .i64 (0)),.pv (.int .i64 (0)),.pv (.int .i64 (0)),.pv (.int .i64 (0)),.pv (.int .i64 (0)),.pv (.int .i64 (0)),.emp 1,.pv (.int .i64 (0)),.pv (.int .i64 (0)),.emp 2,.pv (.int .i64 (0)),.pv (.bool false),.pv (.int .i64 (0)),.pv (.str []),.pv (.int .i64 (0)),.pv (.int .i64 (0)),.pv (.int .i64 (0)),.pv (.int .i64 (0)),.pv (.int .i64 (0)),.pv (.int .i64 (0)),.pv (.int .i64 (0)),.pv (.int .i64 (0)),.pv (.int .i64 (0)),.pv (.int .i64 (0)),.pv (.int .i64 (0)),.emp 57,.emp 47,.emp 3,.pv (.str []),z]
def stV (o d h z:PV):PV:=.agg [o,d,h,.emp 3,.int .i64 (0),.int .i64 (0),.int .i64 (0),.int .i64 (0),.int .i64 (0),.int .i64 (0),.int .i64 (0),.emp 7,.int .i64 (0),.int .i64 (0),.int .i64 (0),.int .i64 (0),.int .i64 (0),.int .i64 (0),.int .i64 (0),.int .i64 (0),.int .i64 (0),.int .i64 (0),.int .i64 (0),.int .i64 (0),.int .i64 (0),.int .i64 (0),.int .i64 (0),.int .i64 (0),.int .i64 (0),.int .i64 (0),.int .i64 (0),.int .i64 (0),.bool false,.bool false,.emp 47,.int .i64 (0),.int .i64 (0),.int .i64 (0),.int .i64 (0),.int .i64 (0),.int .i64 (0),.int .i64 (0),.int .i64 (0),.emp 1,.int .i64 (0),.int .i64 (0),.emp 2,.int .i64 (0),.bool false,.int .i64 (0),.str [],.int .i64 (0),.int .i64 (0),.int .i64 (0),.int .i64 (0),.int .i64 (0),.int .i64 (0),.int .i64 (0),.int .i64 (0),.int .i64 (0),.int .i64 (0),.int .i64 (0),.emp 57,.emp 47,.emp 3,.str [],z]
theorem c1K {H:List (List PV)} (hH:a5e H) {n:Int} (hn:0≤n):0≤k9 H 3 n∧k9 H 3 n<H.length:=by
 obtain ⟨more,rfl,hm,hall⟩:=hH
 have hpos:∃ c:Nat,(idxs 3 0 (a0d++more)).length=c+1:=by
  rw [a7m]
  exact ⟨_,rfl⟩
 obtain ⟨c,hc⟩:=hpos
 have hj:0≤n.tmod ((c+1:Nat):Int)∧n.tmod ((c+1:Nat):Int)<((c+1:Nat):Int):=⟨Int.tmod_nonneg _ hn,Int.tmod_lt_of_pos _ (by omega)⟩
 unfold k9
 rw [hc]
 obtain ⟨r,hr⟩:∃ r,(idxs 3 0 (a0d++more))[(n.tmod ((c+1:Nat):Int)).toNat]?=some r:=⟨_,List.getElem?_eq_getElem (by omega)⟩
 rw [hr]
 obtain ⟨j,rfl,_,h3,_⟩:=a9O 3 _ 0 r (List.mem_of_getElem? hr)
 simp only []
 omega
def c6F (D H:List (List PV)):Prop:=2≤D.length∧D.length≤6∧∀ r ∈ D,∃ j:Int,r=S6 j∧0≤j∧j<H.length
section
variable (cells ops e6 H:List (List PV))
def drB:Nat × Option d7:=(0,some (.box 3 [[.pv (.sl 5 cells),.pv (.sl 5 ops),.pv (.sl 1 e6)]] false))
def zB:Nat × Option d7:=(1,some (.box 67 [c7q (.emp 7) (.emp 7) (.emp 7) (.pv (.int .i64 0))] false))
def sTm (k v:Nat) (w:Int):T:=(((T.nil.set d6 1 (.ptr 0 0 0)).set d6 2 (.ptr 1 0 0)).set d6 3 (.ptr k 0 0)).set d6 v (.pv (.int .i64 w))
def sSt (k:Nat) (v:Int) (c d:Nat) (D:List (List PV)):List (List PV)→St
 | []=>⟨sTm 2 k v,[drB cells ops e6,zB,(2,some (.box 67 [c7q (.emp 7) (.own 3 0 d) (.pv (.sl 7 H)) (.pv (.int .i64 1))] false)),(3,some (.arr 7 D false))],4,63⟩
 | x::L=>⟨sTm 2 k v,[drB cells ops e6,zB,(2,some (.box 67 [c7q (.own 3 0 c) (.own 4 0 d) (.pv (.sl 7 H)) (.pv (.int .i64 1))] false)),(3,some (.arr 7 (x::L) false)),(4,some (.arr 7 D false))],5,63⟩
end
attribute [local irreducible] e9
end Go.Ab.Td
namespace Go.Ab.Td
set_option maxRecDepth 100000
set_option maxRecDepth 100000
open Go Go.Ab
variable {P:Program}
namespace First
def tb (g:Nat):Option m8:=match g==l8 with | true=>some P2 | false=>match g==y1 with | true=>some a0Q | false=>none
def tc (g:Nat):Option m8:=match g==D1 with | true=>some H0 | false=>tb g
def to (g:Nat):Option m8:=match g==u4 with | true=>some M0 | false=>none
theorem c6C (C:Laid P):∀ g c,tb g=some c→b9 P g c=true:=by
 intro g c h
 unfold tb at h
 split at h
 ·rename_i hg;cases h;rw [beq_iff_eq] at hg;subst hg;exact W3 C
 ·split at h
  ·rename_i hg;cases h;rw [beq_iff_eq] at hg;subst hg;exact a3b C
  ·cases h
theorem c9E (C:Laid P):∀ g c,tc g=some c→b9 P g c=true:=by
 intro g c h
 unfold tc at h
 split at h
 ·rename_i hg;cases h;rw [beq_iff_eq] at hg;subst hg;exact a0q C
 ·exact c6C C g c h
theorem c9G (C:Laid P):∀ g c,to g=some c→b9 P g c=true:=by
 intro g c h
 unfold to at h
 split at h
 ·rename_i hg;cases h;rw [beq_iff_eq] at hg;subst hg;exact Y8 C
 ·cases h
theorem run:isR [(0,0)] (.sl 7 a0d) ((a5p G kn0 noX tb noT tc to 10000 20).call u4 [.sl 1 [[.str b4W],[.str b4X]]])=true:=by kernel_rfl
theorem ok (C:Laid P):j4 P G u4 [.sl 1 [[.str b4W],[.str b4X]]] [(0,0)] (.sl 7 a0d):=
 a7T C.mixed (fun _ _ _ _ h=>by cases h) (fun _ _ h=>by cases h) (c6C C) (fun _ _ h=>by cases h) (c9E C) (c9G C) (b6q run)
end First
end Go.Ab.Td
namespace Go.Ab.Td
set_option maxRecDepth 100000
set_option maxRecDepth 100000
open Go Go.Ab
variable {P:Program}
theorem a7u (C:Laid P) {g:Nat} {c:m8} {ps:List PV} {r:PV} (hk:b9 P g c=true) (hl:ps.length=c.nparams) (h:fnW G (j4 P G) noX noT noT 0 c ps r):j4 P G g ps [] r:=
 b5y C.mixed hk (fun _ _ h=>by cases h) (fun _ _ h=>by cases h) (fun _ _ h=>by cases h) hl h
theorem c3o (C:Laid P) (rows:List (List PV)) (hr:∀ r ∈ rows,a3r r) (hl:rows.length≤1000000) (kind n:Int) (hn:0≤n):j4 P G L4 [.sl 7 rows,.int .i64 kind,.int .i64 n] [] (.int .i64 (k9 rows kind n)):=
 a7u C (a9Z C) rfl (b8e _ rows kind n (fun r h=>(hr r h).k) hl hn)
section
variable (C:Laid P) (rows:List (List PV)) (hr:∀ r ∈ rows,a3r r) (hl:rows.length≤1000000) (kd K A B N:Int) (S:List UInt8) (hA:0≤A∧A<256) (hB:0≤B∧B<256)
include C hr hl hA
end
theorem b7N (C:Laid P) (n:Int):j4 P G l8 [.int .i64 n] [] (b7x n):=a7u C (W3 C) rfl (by (conv=>whnf);rfl)
theorem b7O (C:Laid P) (s:List UInt8):j4 P G y1 [.str s] [] (b7X s):=a7u C (a3b C) rfl (by (conv=>whnf);rfl)
theorem a5e.all {H:List (List PV)} (h:a5e H):(∀ r ∈ H,a3r r)∧H.length≤1000000:=by
 obtain ⟨more,rfl,h1,h2⟩:=h
 exact ⟨h2,by simp [a0d];omega⟩
end Go.Ab.Td

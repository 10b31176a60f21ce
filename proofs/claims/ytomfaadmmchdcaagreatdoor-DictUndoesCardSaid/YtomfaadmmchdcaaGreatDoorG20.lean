/- A part of the proof: the texts TdKl, TdKm, TdVp, TdState, TdKitF, TdKit. Under: nothing. -/
import Derived.Test.YtomfaadmmchdcaaGreatDoorG19
import Derived.Test.YtomfaadmmchdcaaGreatDoorG16
import Derived.Test.YtomfaadmmchdcaaGreatDoorG05
set_option linter.unusedVariables false
namespace Go.Ab.Td
set_option maxRecDepth 100000
open Go Go.Ab
variable {P:Program}
set_option linter.unusedSimpArgs false
attribute [local irreducible] e9
def S7 (h:List Cl) (c:Cl):Prop:=
 (c.kind=1∧(c.bytes.length≤1000∧c.items.length=0∧c.keys.length=0∧c.B2.length=0∧c.max=0∧c.at'=0))∨
 (c.kind=2∧(c.bytes=[]∧c.items.length≤1000∧(∀ o ∈ c.items,fits h o)∧c.keys.length=0∧c.B2.length=0∧c.max=0∧c.at'=0))∨
 (c.kind=3∧(c.bytes=[]∧c.items.length=0∧c.at'=0∧0≤c.max∧c.max≤200∧c.keys.length=c.B2.length∧(c.keys.length:Int)≤c.max∧(∀ o ∈ c.keys,fits h o)∧(∀ o ∈ c.B2,fits h o)∧b7K c.keys))∨
 (c.kind=4∧(c.bytes.length≤4000∧c.items.length=0∧c.keys.length=0∧c.B2.length=0∧0≤c.at'∧c.at'≤c.bytes.length∧(c.max=0∨c.max=1)))
end Go.Ab.Td
namespace Go.Ab.Td
set_option maxRecDepth 100000
open Go Go.Ab
variable {P:Program}
set_option linter.unusedSimpArgs false
attribute [local irreducible] e9
end Go.Ab.Td
namespace Go.Ab.Td
set_option maxRecDepth 100000
set_option maxRecDepth 100000
open Go Go.Ab
set_option linter.unusedSimpArgs false
theorem a8W (k:Ob):∀ (l:List Ob) (i s:Nat),l[i]?=some k→(k ∈ l.take i↔i3 k s l<s+i)
 | [],_,_,h=>by simp at h
 | x::l,0,s,h=>by
   simp only [List.getElem?_cons_zero,Option.some.injEq] at h
   subst h
   simp [i3]
 | x::l,i+1,s,h=>by
   simp only [List.getElem?_cons_succ] at h
   have ih:=a8W k l i (s+1) h
   simp only [List.take_succ_cons,List.mem_cons]
   unfold i3
   by_cases e:x=k
   ·rw [if_pos e];simp [e];omega
   ·rw [if_neg e,ih]
    constructor
    ·rintro (e2 | e2)
     ·exact absurd e2.symm e
     ·omega
    ·intro e2;right;omega
theorem keys_iff {l:List Ob} (hr:∀ o ∈ l,o.right):keysOk l↔b7K l:=by
 unfold keysOk b7K
 refine forall_congr' fun i=>forall_congr' fun k=>⟨fun h hk=>?_,fun h hk=>?_⟩
 ·obtain ⟨h1,h2⟩:=h hk
  have r:=hr k (List.mem_of_getElem? hk)
  rw [a8W k l i 0 hk] at h2
  unfold b8L at h1
  rw [if_neg (fun h=>h r)] at h1
  by_cases h06:k.kind=0∨k.kind=6
  ·rw [if_pos h06] at h1
   simp at h1
  ·rw [if_neg h06] at h1
   simp only [Prod.mk.injEq,and_true] at h1
   exact ⟨by omega,by omega,h1,by omega⟩
 ·obtain ⟨h1,h2,h3,h4⟩:=h hk
  have r:=hr k (List.mem_of_getElem? hk)
  rw [a8W k l i 0 hk]
  unfold b8L
  rw [if_neg (fun h=>h r),if_neg (by omega),h3]
  exact ⟨rfl,by omega⟩
theorem c7C {p:Ob→Prop} {a b c:List Ob}:(∀ l ∈ [a,b,c],∀ o ∈ l,p o)↔((∀ o ∈ a,p o)∧(∀ o ∈ b,p o)∧(∀ o ∈ c,p o)):=by
 simp
theorem keys_nil {l:List Ob} (h:l.length=0):keysOk l:=by
 rw [List.length_eq_zero_iff.1 h]
 intro i k hk
 simp at hk
theorem all_nil {p:Ob→Prop} {l:List Ob} (h:l.length=0):∀ o ∈ l,p o:=by
 rw [List.length_eq_zero_iff.1 h];simp
theorem cell_iff (h:List Cl) (c:Cl):okCell h c↔S7 h c:=by
 unfold okCell keyedP c0F
 rw [c7C]
 unfold bareP limP S7
 by_cases k1:c.kind=1
 ·rw [if_pos k1]
  constructor
  ·rintro ⟨⟨-,b1,b2,b3⟩ | ⟨e, -⟩ | ⟨e, -⟩ | ⟨e, -⟩,hl, -⟩
   ·exact .inl ⟨k1,hl,by omega,by omega,by omega,b2,b3⟩
   all_goals omega
  ·rintro (⟨-,h1,h2,h3,h4,h5,h6⟩ | ⟨e, -⟩ | ⟨e, -⟩ | ⟨e, -⟩)
   ·exact ⟨.inl ⟨k1,by omega,h5,h6⟩,h1,⟨all_nil h2,all_nil h3,all_nil h4⟩,keys_nil h3⟩
   all_goals omega
 rw [if_neg k1]
 by_cases k2:c.kind=2
 ·rw [if_pos k2]
  constructor
  ·rintro ⟨⟨e, -⟩ | ⟨-,b1,b2,b3,b4⟩ | ⟨e, -⟩ | ⟨e, -⟩,hl,⟨hf, -⟩, -⟩
   ·omega
   ·exact .inr (.inl ⟨k2,b1,hl,hf,by omega,by omega,b3,b4⟩)
   all_goals omega
  ·rintro (⟨e, -⟩ | ⟨-,h1,h2,h3,h4,h5,h6,h7⟩ | ⟨e, -⟩ | ⟨e, -⟩)
   ·omega
   ·exact ⟨.inr (.inl ⟨k2,h1,by omega,h6,h7⟩),h2,⟨h3,all_nil h4,all_nil h5⟩,keys_nil h4⟩
   all_goals omega
 rw [if_neg k2]
 by_cases k3:c.kind=3
 ·rw [if_pos k3]
  constructor
  ·rintro ⟨⟨e, -⟩ | ⟨e, -⟩ | ⟨-,b1,b2,b3⟩ | ⟨e, -⟩,⟨l1,l2,l3,l4⟩,⟨-,hf,hv⟩,hk⟩
   ·omega
   ·omega
   ·exact .inr (.inr (.inl ⟨k3,b1,b2,b3,l1,l2,l3,l4,hf,hv,(keys_iff fun o ho=>(hf o ho).1).1 hk⟩))
   ·omega
  ·rintro (⟨e, -⟩ | ⟨e, -⟩ | ⟨-,h1,h2,h3,h4,h5,h6,h7,h8,h9,h10⟩ | ⟨e, -⟩)
   ·omega
   ·omega
   ·exact ⟨.inr (.inr (.inl ⟨k3,h1,h2,h3⟩)),⟨h4,h5,h6,h7⟩,⟨all_nil h2,h8,h9⟩,(keys_iff fun o ho=>(h8 o ho).1).2 h10⟩
   ·omega
 rw [if_neg k3]
 constructor
 ·rintro ⟨⟨e, -⟩ | ⟨e, -⟩ | ⟨e, -⟩ | ⟨k4,b1⟩,⟨l1,l2,l3,l4⟩, -⟩
  ·omega
  ·omega
  ·omega
  ·exact .inr (.inr (.inr ⟨k4,l1,by omega,by omega,by omega,l2,l3,l4⟩))
 ·rintro (⟨e, -⟩ | ⟨e, -⟩ | ⟨e, -⟩ | ⟨k4,h1,h2,h3,h4,h5,h6,h7⟩)
  ·omega
  ·omega
  ·omega
  ·exact ⟨.inr (.inr (.inr ⟨k4,by omega⟩)),⟨h1,h5,h6,h7⟩,⟨all_nil h2,all_nil h3,all_nil h4⟩,keys_nil h3⟩
def a5S (h:List Cl):Prop:=(∀ c ∈ h,S7 h c)∧F8 0 h≤20000
theorem chk_cases (h:List Cl):(a5S h∧chkE h=0)∨(¬ a5S h∧chkE h=210):=by
 unfold a5S chkE
 by_cases ht:F8 0 h>20000
 ·rw [if_pos ht];exact .inr ⟨fun hp=>by omega,rfl⟩
 ·rw [if_neg ht]
  by_cases hc:∀ c ∈ h,S7 h c
  ·rw [if_pos (show ∀ c ∈ h,bareP c∧limP c∧keyedP h c from fun c hh=>(cell_iff h c).2 (hc c hh))];exact .inl ⟨⟨hc,by omega⟩,rfl⟩
  ·rw [if_neg (show ¬ ∀ c ∈ h,bareP c∧limP c∧keyedP h c from fun hp=>hc fun c hh=>(cell_iff h c).1 (hp c hh))];exact .inr ⟨fun hp=>hc hp.1,rfl⟩
theorem a9G (c:Cl):∀ (l:List Cl) (n:Int),F8 n (l++[c])=IntKind.i64.wrap (F8 n l+c.size)
 | [],_=>rfl
 | _::l,_=>a9G c l _
theorem a9H {c c':Cl} (hs:c'.size=c.size):∀ (l:List Cl) (j:Nat) (n:Int),l[j]?=some c→F8 n (l.set j c')=F8 n l
 | [],j,n,h=>by simp at h
 | x::l,0,n,h=>by
   simp only [List.getElem?_cons_zero,Option.some.injEq] at h
   subst h
   simp only [List.set_cons_zero,F8,hs]
 | x::l,j+1,n,h=>by
   simp only [List.getElem?_cons_succ] at h
   simp only [List.set_cons_succ,F8]
   exact a9H hs l j _ h
theorem a6u {h more:List Cl} {o:Ob} (hf:fits h o):fits (h++more) o:=by
 refine ⟨hf.1,fun hk=>?_⟩
 obtain ⟨c,hc,h1⟩:=hf.2 hk
 exact ⟨c,by rw [List.getElem?_append_left (List.getElem?_eq_some_iff.1 hc).1];exact hc,h1⟩
theorem a0c {h h':List Cl} (hm:∀ o,fits h o→fits h' o) {c:Cl} (hc:S7 h c):S7 h' c:=by
 unfold S7 at*
 rcases hc with h1 | ⟨k,a,b,f,r⟩ | ⟨k,a,b,c1,c2,c3,c4,c5,f,g,r⟩ | h1
 ·exact .inl h1
 ·exact .inr (.inl ⟨k,a,b,fun o ho=>hm o (f o ho),r⟩)
 ·exact .inr (.inr (.inl ⟨k,a,b,c1,c2,c3,c4,c5,fun o ho=>hm o (f o ho),fun o ho=>hm o (g o ho),r⟩))
 ·exact .inr (.inr (.inr h1))
theorem a8T {h:List Cl} {j:Nat} {c c':Cl} (hc:h[j]?=some c) (hk:c'.kind=c.kind) (hl:c'.kind=3∨c'.kind=4∨c'.length=c.length) {o:Ob} (hf:fits h o):fits (h.set j c') o:=by
 refine ⟨hf.1,fun hx=>?_⟩
 obtain ⟨d,hd,h1,h2⟩:=hf.2 hx
 by_cases e:o.ref.toNat=j
 ·subst e
  rw [hd] at hc
  cases hc
  refine ⟨c',by rw [List.getElem?_set_self (List.getElem?_eq_some_iff.1 hd).1],by rw [hk];exact h1,fun h9=>?_⟩
  have:c'.length=c.length:=by
   rcases hl with hl | hl | hl
   ·exfalso
    rw [hk,h1] at hl
    rcases a3N o.kind with q | q | q | q | q <;>omega
   ·exfalso
    rw [hk,h1] at hl
    rcases a3N o.kind with q | q | q | q | q <;>omega
   ·exact hl
  rw [this]
  exact h2 h9
 ·exact ⟨d,by rw [List.getElem?_set_ne (fun h=>e h.symm)];exact hd,h1,h2⟩
theorem a7j {h:List Cl} {j:Nat} {c c':Cl} (hv:a5S h) (hc:h[j]?=some c) (hk:c'.kind=c.kind) (hl:c'.kind=3∨c'.kind=4∨c'.length=c.length) (hs:c'.size=c.size) (hr:S7 h c'):a5S (h.set j c'):=by
 refine ⟨fun d hd=>?_,by rw [a9H hs h j 0 hc];exact hv.2⟩
 rcases List.mem_or_eq_of_mem_set hd with hd | rfl
 ·exact a0c (fun o ho=>a8T hc hk hl ho) (hv.1 d hd)
 ·exact a0c (fun o ho=>a8T hc hk hl ho) hr
end Go.Ab.Td
namespace Go.Ab.Td
set_option maxRecDepth 100000
set_option maxRecDepth 100000
open Go Go.Ab
def c4P (a b c z:AV):List AV:=[a,b,c,.emp 3,.pv (.int .i64 (0)),.pv (.int .i64 (0)),.pv (.int .i64 (0)),.pv (.int .i64 (0)),.pv (.int .i64 (0)),.pv (.int .i64 (0)),.pv (.int .i64 (0)),.emp 7,.pv (.int .i64 (0)),.pv (.int .i64 (0)),.pv (.int .i64 (0)),.pv (.int .i64 (0)),.pv (.int .i64 (0)),.pv (.int .i64 (0)),.pv (.int .i64 (0)),.pv (.int .i64 (0)),.pv (.int .i64 (0)),.pv (.int .i64 (0)),.pv (.int .i64 (0)),.pv (.int .i64 (0)),.pv (.int .i64 (0)),.pv (.int .i64 (0)),.pv (.int .i64 (0)),.pv (.int .i64 (0)),.pv (.int .i64 (0)),.pv (.int .i64 (0)),.pv (.int .i64 (0)),.pv (.int .i64 (0)),.pv (.bool false),.pv (.bool false),.emp 47,.pv (.int .i64 (0)),.pv (.int .i64 (0)),.pv (.int .i64 (0)),.pv (.int .i64 (0)),.pv (.int .i64 (0)),.pv (.int .i64 (0)),.pv (.int .i64 (0)),.pv (.int .i64 (0)),.emp 1,.pv (.int .i64 (0)),.pv (.int .i64 (0)),.emp 2,.pv (.int .i64 (0)),.pv (.bool false),.pv (.int .i64 (0)),.pv (.str []),.pv (.int .i64 (0)),.pv (.int .i64 (0)),.pv (.int .i64 (0)),.pv (.int .i64 (0)),.pv (.int .i64 (0)),.pv (.int .i64 (0)),.pv (.int .i64 (0)),.pv (.int .i64 (0)),.pv (.int .i64 (0)),.pv (.int .i64 (0)),.pv (.int .i64 (0)),.emp 57,.emp 47,.emp 3,.pv (.str []),z]
def stV (o d h z:PV):PV:=.agg [o,d,h,.emp 3,.int .i64 (0),.int .i64 (0),.int .i64 (0),.int .i64 (0),.int .i64 (0),.int .i64 (0),.int .i64 (0),.emp 7,.int .i64 (0),.int .i64 (0),.int .i64 (0),.int .i64 (0),.int .i64 (0),.int .i64 (0),.int .i64 (0),.int .i64 (0),.int .i64 (0),.int .i64 (0),.int .i64 (0),.int .i64 (0),.int .i64 (0),.int .i64 (0),.int .i64 (0),.int .i64 (0),.int .i64 (0),.int .i64 (0),.int .i64 (0),.int .i64 (0),.bool false,.bool false,.emp 47,.int .i64 (0),.int .i64 (0),.int .i64 (0),.int .i64 (0),.int .i64 (0),.int .i64 (0),.int .i64 (0),.int .i64 (0),.emp 1,.int .i64 (0),.int .i64 (0),.emp 2,.int .i64 (0),.bool false,.int .i64 (0),.str [],.int .i64 (0),.int .i64 (0),.int .i64 (0),.int .i64 (0),.int .i64 (0),.int .i64 (0),.int .i64 (0),.int .i64 (0),.int .i64 (0),.int .i64 (0),.int .i64 (0),.emp 57,.emp 47,.emp 3,.str [],z]
theorem b8P {H:List (List PV)} (hH:a4J H) {n:Int} (hn:0≤n):0≤k9 H 3 n∧k9 H 3 n<H.length:=by
 obtain ⟨more,rfl,hm,hall⟩:=hH
 have hpos:∃ c:Nat,(idxs 3 0 (Z1++more)).length=c+1:=by
  rw [a6w]
  exact ⟨_,rfl⟩
 obtain ⟨c,hc⟩:=hpos
 have hj:0≤n.tmod ((c+1:Nat):Int)∧n.tmod ((c+1:Nat):Int)<((c+1:Nat):Int):=⟨Int.tmod_nonneg _ hn,Int.tmod_lt_of_pos _ (by omega)⟩
 unfold k9
 rw [hc]
 obtain ⟨r,hr⟩:∃ r,(idxs 3 0 (Z1++more))[(n.tmod ((c+1:Nat):Int)).toNat]?=some r:=⟨_,List.getElem?_eq_getElem (by omega)⟩
 rw [hr]
 obtain ⟨j,rfl,_,h3,_⟩:=a8X 3 _ 0 r (List.mem_of_getElem? hr)
 simp only []
 omega
def c4b (D H:List (List PV)):Prop:=2≤D.length∧D.length≤6∧∀ r ∈ D,∃ j:Int,r=Q2 j∧0≤j∧j<H.length
section
variable (cells ops d5 H:List (List PV))
def drB:Nat × Option d9:=(0,some (.box 3 [[.pv (.sl 5 cells),.pv (.sl 5 ops),.pv (.sl 1 d5)]] false))
def zB:Nat × Option d9:=(1,some (.box 67 [c4P (.emp 7) (.emp 7) (.emp 7) (.pv (.int .i64 0))] false))
def sTm (k v:Nat) (w:Int):T:=(((T.nil.set d7 1 (.ptr 0 0 0)).set d7 2 (.ptr 1 0 0)).set d7 3 (.ptr k 0 0)).set d7 v (.pv (.int .i64 w))
def sSt (k:Nat) (v:Int) (c d:Nat) (D:List (List PV)):List (List PV)→St
 | []=>⟨sTm 2 k v,[drB cells ops d5,zB,(2,some (.box 67 [c4P (.emp 7) (.own 3 0 d) (.pv (.sl 7 H)) (.pv (.int .i64 1))] false)),(3,some (.arr 7 D false))],4,63⟩
 | x::L=>⟨sTm 2 k v,[drB cells ops d5,zB,(2,some (.box 67 [c4P (.own 3 0 c) (.own 4 0 d) (.pv (.sl 7 H)) (.pv (.int .i64 1))] false)),(3,some (.arr 7 (x::L) false)),(4,some (.arr 7 D false))],5,63⟩
end
attribute [local irreducible] e9
end Go.Ab.Td
namespace Go.Ab.Td
set_option maxRecDepth 100000
set_option maxRecDepth 100000
open Go Go.Ab
variable {P:Program}
namespace First
def tb (g:Nat):Option n6:=match g==n5 with | true=>some a0J | false=>match g==x5 with | true=>some a2H | false=>none
def tc (g:Nat):Option n6:=match g==F0 with | true=>some M5 | false=>tb g
def to (g:Nat):Option n6:=match g==y2 with | true=>some X5 | false=>none
theorem c3Z (C:Laid P):∀ g c,tb g=some c→d8 P g c=true:=by
 intro g c h
 unfold tb at h
 split at h
 ·rename_i hg;cases h;rw [beq_iff_eq] at hg;subst hg;exact a2Q C
 ·split at h
  ·rename_i hg;cases h;rw [beq_iff_eq] at hg;subst hg;exact a5F C
  ·cases h
theorem c6p (C:Laid P):∀ g c,tc g=some c→d8 P g c=true:=by
 intro g c h
 unfold tc at h
 split at h
 ·rename_i hg;cases h;rw [beq_iff_eq] at hg;subst hg;exact a3p C
 ·exact c3Z C g c h
theorem c6r (C:Laid P):∀ g c,to g=some c→d8 P g c=true:=by
 intro g c h
 unfold to at h
 split at h
 ·rename_i hg;cases h;rw [beq_iff_eq] at hg;subst hg;exact a4v C
 ·cases h
theorem run:isR [(0,0)] (.sl 7 Z1) ((a5s G kn0 noX tb noT tc to 10000 20).call y2 [.sl 1 [[.str b3j],[.str b3k]]])=true:=by kernel_rfl
theorem ok (C:Laid P):l3 P G y2 [.sl 1 [[.str b3j],[.str b3k]]] [(0,0)] (.sl 7 Z1):=
 b0n C.mixed (fun _ _ _ _ h=>by cases h) (fun _ _ h=>by cases h) (c3Z C) (fun _ _ h=>by cases h) (c6p C) (c6r C) (b6C run)
end First
end Go.Ab.Td
namespace Go.Ab.Td
set_option maxRecDepth 100000
set_option maxRecDepth 100000
open Go Go.Ab
variable {P:Program}
theorem a8h (C:Laid P) {g:Nat} {c:n6} {ps:List PV} {r:PV} (hk:d8 P g c=true) (hl:ps.length=c.nparams) (h:fnW G (l3 P G) noX noT noT 0 c ps r):l3 P G g ps [] r:=
 b3J C.mixed hk (fun _ _ h=>by cases h) (fun _ _ h=>by cases h) (fun _ _ h=>by cases h) hl h
theorem c0u (C:Laid P) (rows:List (List PV)) (hr:∀ r ∈ rows,a3c r) (hl:rows.length≤1000000) (kind n:Int) (hn:0≤n):l3 P G H7 [.sl 7 rows,.int .i64 kind,.int .i64 n] [] (.int .i64 (k9 rows kind n)):=
 a8h C (a9k C) rfl (b5N _ rows kind n (fun r h=>(hr r h).k) hl hn)
section
variable (C:Laid P) (rows:List (List PV)) (hr:∀ r ∈ rows,a3c r) (hl:rows.length≤1000000) (kd K A B N:Int) (S:List UInt8) (hA:0≤A∧A<256) (hB:0≤B∧B<256)
include C hr hl hA
end
theorem c0s (C:Laid P) (n:Int):l3 P G n5 [.int .i64 n] [] (b5j n):=a8h C (a2Q C) rfl (by (conv=>whnf);rfl)
theorem c0t (C:Laid P) (s:List UInt8):l3 P G x5 [.str s] [] (b5D s):=a8h C (a5F C) rfl (by (conv=>whnf);rfl)
theorem a4J.all {H:List (List PV)} (h:a4J H):(∀ r ∈ H,a3c r)∧H.length≤1000000:=by
 obtain ⟨more,rfl,h1,h2⟩:=h
 exact ⟨h2,by simp [Z1];omega⟩
end Go.Ab.Td

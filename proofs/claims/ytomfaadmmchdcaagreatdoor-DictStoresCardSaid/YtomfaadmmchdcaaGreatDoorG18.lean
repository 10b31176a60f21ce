/- A part of the proof: the texts TdVp, TdState, TdKitF, TdKit, TdTy. Under: nothing. -/
import Derived.Test.YtomfaadmmchdcaaGreatDoorG17
import Derived.Test.YtomfaadmmchdcaaGreatDoorG16
import Derived.Test.YtomfaadmmchdcaaGreatDoorG05
set_option linter.unusedVariables false
namespace Go.Ab.Td
set_option maxRecDepth 100000
set_option maxRecDepth 100000
open Go Go.Ab
set_option linter.unusedSimpArgs false
theorem a8W (k:Ob):∀ (l:List Ob) (i s:Nat),l[i]?=some k→(k ∈ l.take i↔i3 k s l<s+i)
 | [],_,_,h=>by simp at h
 | x::l,0,s,h=>by
   simp only [List.getElem?_cons_zero,Option.some.injEq] at h
   subst h
   simp [i3]
 | x::l,i+1,s,h=>by
   simp only [List.getElem?_cons_succ] at h
   have ih:=a8W k l i (s+1) h
   simp only [List.take_succ_cons,List.mem_cons]
   unfold i3
   by_cases e:x=k
   ·rw [if_pos e];simp [e];omega
   ·rw [if_neg e,ih]
    constructor
    ·rintro (e2 | e2)
     ·exact absurd e2.symm e
     ·omega
    ·intro e2;right;omega
theorem c7C {p:Ob→Prop} {a b c:List Ob}:(∀ l ∈ [a,b,c],∀ o ∈ l,p o)↔((∀ o ∈ a,p o)∧(∀ o ∈ b,p o)∧(∀ o ∈ c,p o)):=by
 simp
def a5S (h:List Cl):Prop:=(∀ c ∈ h,S7 h c)∧F8 0 h≤20000
theorem a9G (c:Cl):∀ (l:List Cl) (n:Int),F8 n (l++[c])=IntKind.i64.wrap (F8 n l+c.size)
 | [],_=>rfl
 | _::l,_=>a9G c l _
theorem a9H {c c':Cl} (hs:c'.size=c.size):∀ (l:List Cl) (j:Nat) (n:Int),l[j]?=some c→F8 n (l.set j c')=F8 n l
 | [],j,n,h=>by simp at h
 | x::l,0,n,h=>by
   simp only [List.getElem?_cons_zero,Option.some.injEq] at h
   subst h
   simp only [List.set_cons_zero,F8,hs]
 | x::l,j+1,n,h=>by
   simp only [List.getElem?_cons_succ] at h
   simp only [List.set_cons_succ,F8]
   exact a9H hs l j _ h
theorem a6u {h more:List Cl} {o:Ob} (hf:fits h o):fits (h++more) o:=by
 refine ⟨hf.1,fun hk=>?_⟩
 obtain ⟨c,hc,h1⟩:=hf.2 hk
 exact ⟨c,by rw [List.getElem?_append_left (List.getElem?_eq_some_iff.1 hc).1];exact hc,h1⟩
theorem a0c {h h':List Cl} (hm:∀ o,fits h o→fits h' o) {c:Cl} (hc:S7 h c):S7 h' c:=by
 unfold S7 at*
 rcases hc with h1 | ⟨k,a,b,f,r⟩ | ⟨k,a,b,c1,c2,c3,c4,c5,f,g,r⟩ | h1
 ·exact .inl h1
 ·exact .inr (.inl ⟨k,a,b,fun o ho=>hm o (f o ho),r⟩)
 ·exact .inr (.inr (.inl ⟨k,a,b,c1,c2,c3,c4,c5,fun o ho=>hm o (f o ho),fun o ho=>hm o (g o ho),r⟩))
 ·exact .inr (.inr (.inr h1))
theorem a8T {h:List Cl} {j:Nat} {c c':Cl} (hc:h[j]?=some c) (hk:c'.kind=c.kind) (hl:c'.kind=3∨c'.kind=4∨c'.length=c.length) {o:Ob} (hf:fits h o):fits (h.set j c') o:=by
 refine ⟨hf.1,fun hx=>?_⟩
 obtain ⟨d,hd,h1,h2⟩:=hf.2 hx
 by_cases e:o.ref.toNat=j
 ·subst e
  rw [hd] at hc
  cases hc
  refine ⟨c',by rw [List.getElem?_set_self (List.getElem?_eq_some_iff.1 hd).1],by rw [hk];exact h1,fun h9=>?_⟩
  have:c'.length=c.length:=by
   rcases hl with hl | hl | hl
   ·exfalso
    rw [hk,h1] at hl
    rcases a3N o.kind with q | q | q | q | q <;>omega
   ·exfalso
    rw [hk,h1] at hl
    rcases a3N o.kind with q | q | q | q | q <;>omega
   ·exact hl
  rw [this]
  exact h2 h9
 ·exact ⟨d,by rw [List.getElem?_set_ne (fun h=>e h.symm)];exact hd,h1,h2⟩
theorem a7j {h:List Cl} {j:Nat} {c c':Cl} (hv:a5S h) (hc:h[j]?=some c) (hk:c'.kind=c.kind) (hl:c'.kind=3∨c'.kind=4∨c'.length=c.length) (hs:c'.size=c.size) (hr:S7 h c'):a5S (h.set j c'):=by
 refine ⟨fun d hd=>?_,by rw [a9H hs h j 0 hc];exact hv.2⟩
 rcases List.mem_or_eq_of_mem_set hd with hd | rfl
 ·exact a0c (fun o ho=>a8T hc hk hl ho) (hv.1 d hd)
 ·exact a0c (fun o ho=>a8T hc hk hl ho) hr
end Go.Ab.Td
namespace Go.Ab.Td
set_option maxRecDepth 100000
set_option maxRecDepth 100000
open Go Go.Ab
def c4P (a b c z:AV):List AV:=[a,b,c,.emp 3,.pv (.int .i64 (0)),.pv (.int .i64 (0)),.pv (.int .i64 (0)),.pv (.int .i64 (0)),.pv (.int .i64 (0)),.pv (.int .i64 (0)),.pv (.int .i64 (0)),.emp 7,.pv (.int .i64 (0)),.pv (.int .i64 (0)),.pv (.int .i64 (0)),.pv (.int .i64 (0)),.pv (.int .i64 (0)),.pv (.int .i64 (0)),.pv (.int .i64 (0)),.pv (.int .i64 (0)),.pv (.int .i64 (0)),.pv (.int .i64 (0)),.pv (.int .i64 (0)),.pv (.int .i64 (0)),.pv (.int .i64 (0)),.pv (.int .i64 (0)),.pv (.int .i64 (0)),.pv (.int .i64 (0)),.pv (.int .i64 (0)),.pv (.int .i64 (0)),.pv (.int .i64 (0)),.pv (.int .i64 (0)),.pv (.bool false),.pv (.bool false),.emp 47,.pv (.int .i64 (0)),.pv (.int .i64 (0)),.pv (.int .i64 (0)),.pv (.int .i64 (0)),.pv (.int .i64 (0)),.pv (.int .i64 (0)),.pv (.int .i64 (0)),.pv (.int .i64 (0)),.emp 1,.pv (.int .i64 (0)),.pv (.int .i64 (0)),.emp 2,.pv (.int .i64 (0)),.pv (.bool false),.pv (.int .i64 (0)),.pv (.str []),.pv (.int .i64 (0)),.pv (.int .i64 (0)),.pv (.int .i64 (0)),.pv (.int .i64 (0)),.pv (.int .i64 (0)),.pv (.int .i64 (0)),.pv (.int .i64 (0)),.pv (.int .i64 (0)),.pv (.int .i64 (0)),.pv (.int .i64 (0)),.pv (.int .i64 (0)),.emp 57,.emp 47,.emp 3,.pv (.str []),z]
def stV (o d h z:PV):PV:=.agg [o,d,h,.emp 3,.int .i64 (0),.int .i64 (0),.int .i64 (0),.int .i64 (0),.int .i64 (0),.int .i64 (0),.int .i64 (0),.emp 7,.int .i64 (0),.int .i64 (0),.int .i64 (0),.int .i64 (0),.int .i64 (0),.int .i64 (0),.int .i64 (0),.int .i64 (0),.int .i64 (0),.int .i64 (0),.int .i64 (0),.int .i64 (0),.int .i64 (0),.int .i64 (0),.int .i64 (0),.int .i64 (0),.int .i64 (0),.int .i64 (0),.int .i64 (0),.int .i64 (0),.bool false,.bool false,.emp 47,.int .i64 (0),.int .i64 (0),.int .i64 (0),.int .i64 (0),.int .i64 (0),.int .i64 (0),.int .i64 (0),.int .i64 (0),.emp 1,.int .i64 (0),.int .i64 (0),.emp 2,.int .i64 (0),.bool false,.int .i64 (0),.str [],.int .i64 (0),.int .i64 (0),.int .i64 (0),.int .i64 (0),.int .i64 (0),.int .i64 (0),.int .i64 (0),.int .i64 (0),.int .i64 (0),.int .i64 (0),.int .i64 (0),.emp 57,.emp 47,.emp 3,.str [],z]
theorem b8P {H:List (List PV)} (hH:a4J H) {n:Int} (hn:0≤n):0≤k9 H 3 n∧k9 H 3 n<H.length:=by
 obtain ⟨more,rfl,hm,hall⟩:=hH
 have hpos:∃ c:Nat,(idxs 3 0 (Z1++more)).length=c+1:=by
  rw [a6w]
  exact ⟨_,rfl⟩
 obtain ⟨c,hc⟩:=hpos
 have hj:0≤n.tmod ((c+1:Nat):Int)∧n.tmod ((c+1:Nat):Int)<((c+1:Nat):Int):=⟨Int.tmod_nonneg _ hn,Int.tmod_lt_of_pos _ (by omega)⟩
 unfold k9
 rw [hc]
 obtain ⟨r,hr⟩:∃ r,(idxs 3 0 (Z1++more))[(n.tmod ((c+1:Nat):Int)).toNat]?=some r:=⟨_,List.getElem?_eq_getElem (by omega)⟩
 rw [hr]
 obtain ⟨j,rfl,_,h3,_⟩:=a8X 3 _ 0 r (List.mem_of_getElem? hr)
 simp only []
 omega
def c4b (D H:List (List PV)):Prop:=2≤D.length∧D.length≤6∧∀ r ∈ D,∃ j:Int,r=Q2 j∧0≤j∧j<H.length
section
variable (cells ops d5 H:List (List PV))
def drB:Nat × Option d9:=(0,some (.box 3 [[.pv (.sl 5 cells),.pv (.sl 5 ops),.pv (.sl 1 d5)]] false))
def zB:Nat × Option d9:=(1,some (.box 67 [c4P (.emp 7) (.emp 7) (.emp 7) (.pv (.int .i64 0))] false))
def sTm (k v:Nat) (w:Int):T:=(((T.nil.set d7 1 (.ptr 0 0 0)).set d7 2 (.ptr 1 0 0)).set d7 3 (.ptr k 0 0)).set d7 v (.pv (.int .i64 w))
def sSt (k:Nat) (v:Int) (c d:Nat) (D:List (List PV)):List (List PV)→St
 | []=>⟨sTm 2 k v,[drB cells ops d5,zB,(2,some (.box 67 [c4P (.emp 7) (.own 3 0 d) (.pv (.sl 7 H)) (.pv (.int .i64 1))] false)),(3,some (.arr 7 D false))],4,63⟩
 | x::L=>⟨sTm 2 k v,[drB cells ops d5,zB,(2,some (.box 67 [c4P (.own 3 0 c) (.own 4 0 d) (.pv (.sl 7 H)) (.pv (.int .i64 1))] false)),(3,some (.arr 7 (x::L) false)),(4,some (.arr 7 D false))],5,63⟩
end
attribute [local irreducible] e9
end Go.Ab.Td
namespace Go.Ab.Td
set_option maxRecDepth 100000
set_option maxRecDepth 100000
open Go Go.Ab
variable {P:Program}
namespace First
def tb (g:Nat):Option n6:=match g==n5 with | true=>some a0J | false=>match g==x5 with | true=>some a2H | false=>none
def tc (g:Nat):Option n6:=match g==F0 with | true=>some M5 | false=>tb g
def to (g:Nat):Option n6:=match g==y2 with | true=>some X5 | false=>none
theorem c3Z (C:Laid P):∀ g c,tb g=some c→d8 P g c=true:=by
 intro g c h
 unfold tb at h
 split at h
 ·rename_i hg;cases h;rw [beq_iff_eq] at hg;subst hg;exact a2Q C
 ·split at h
  ·rename_i hg;cases h;rw [beq_iff_eq] at hg;subst hg;exact a5F C
  ·cases h
theorem c6p (C:Laid P):∀ g c,tc g=some c→d8 P g c=true:=by
 intro g c h
 unfold tc at h
 split at h
 ·rename_i hg;cases h;rw [beq_iff_eq] at hg;subst hg;exact a3p C
 ·exact c3Z C g c h
theorem c6r (C:Laid P):∀ g c,to g=some c→d8 P g c=true:=by
 intro g c h
 unfold to at h
 split at h
 ·rename_i hg;cases h;rw [beq_iff_eq] at hg;subst hg;exact a4v C
 ·cases h
theorem run:isR [(0,0)] (.sl 7 Z1) ((a5s G kn0 noX tb noT tc to 10000 20).call y2 [.sl 1 [[.str b3j],[.str b3k]]])=true:=by kernel_rfl
theorem ok (C:Laid P):l3 P G y2 [.sl 1 [[.str b3j],[.str b3k]]] [(0,0)] (.sl 7 Z1):=
 b0n C.mixed (fun _ _ _ _ h=>by cases h) (fun _ _ h=>by cases h) (c3Z C) (fun _ _ h=>by cases h) (c6p C) (c6r C) (b6C run)
end First
end Go.Ab.Td
namespace Go.Ab.Td
set_option maxRecDepth 100000
set_option maxRecDepth 100000
open Go Go.Ab
variable {P:Program}
theorem a8h (C:Laid P) {g:Nat} {c:n6} {ps:List PV} {r:PV} (hk:d8 P g c=true) (hl:ps.length=c.nparams) (h:fnW G (l3 P G) noX noT noT 0 c ps r):l3 P G g ps [] r:=
 b3J C.mixed hk (fun _ _ h=>by cases h) (fun _ _ h=>by cases h) (fun _ _ h=>by cases h) hl h
theorem c0u (C:Laid P) (rows:List (List PV)) (hr:∀ r ∈ rows,a3c r) (hl:rows.length≤1000000) (kind n:Int) (hn:0≤n):l3 P G H7 [.sl 7 rows,.int .i64 kind,.int .i64 n] [] (.int .i64 (k9 rows kind n)):=
 a8h C (a9k C) rfl (b5N _ rows kind n (fun r h=>(hr r h).k) hl hn)
section
variable (C:Laid P) (rows:List (List PV)) (hr:∀ r ∈ rows,a3c r) (hl:rows.length≤1000000) (kd K A B N:Int) (S:List UInt8) (hA:0≤A∧A<256) (hB:0≤B∧B<256)
include C hr hl hA
end
theorem c0s (C:Laid P) (n:Int):l3 P G n5 [.int .i64 n] [] (b5j n):=a8h C (a2Q C) rfl (by (conv=>whnf);rfl)
theorem c0t (C:Laid P) (s:List UInt8):l3 P G x5 [.str s] [] (b5D s):=a8h C (a5F C) rfl (by (conv=>whnf);rfl)
theorem a4J.all {H:List (List PV)} (h:a4J H):(∀ r ∈ H,a3c r)∧H.length≤1000000:=by
 obtain ⟨more,rfl,h1,h2⟩:=h
 exact ⟨h2,by simp [Z1];omega⟩
end Go.Ab.Td
namespace Go.Ab.Td
set_option maxRecDepth 100000
set_option maxRecDepth 100000
open Go Go.Ab
variable {P:Program}
theorem c2J {g:Nat} {ps:List PV} {p r:PV} (h:l3 P G g ps [] p) (hl:PV.le p r):l3 P G g ps [] r:=by
 intro w I vs hb hg ha
 obtain ⟨h1,h2⟩:=h w I vs hb hg ha
 refine ⟨h1,CallsIn.mono h2 fun e w' he=>?_⟩
 cases e with
 | returned v=>
   obtain ⟨I',a,b,c,d⟩:=he
   refine ⟨I',a,b,c,fun nm=>?_⟩
   obtain ⟨ι,e1,e2⟩:=d nm
   cases e2 with
   | pv hp=>exact ⟨ι,e1,.pv (hp.le hl)⟩
 | _=>exact he.elim
theorem c7L {r:List PV} (h:a3A r):∃ o:Ob,r=i4 o∧o.n<9223372036854775808:=by
 obtain ⟨k,e,n,s,rf,o,l,hn,rfl⟩:=h
 exact ⟨⟨k,e,n,s,rf,o,l⟩,rfl,hn⟩
theorem c3T:∀ {rr:List (List PV)},(∀ x ∈ rr,a3A x)→∃ l:List Ob,rr=l.map i4∧∀ o ∈ l,o.n<9223372036854775808
 | [],_=>⟨[],rfl,by simp⟩
 | r::rr,h=>by
   obtain ⟨o,rfl,hn⟩:=c7L (h r (by simp))
   obtain ⟨l,rfl,hl⟩:=c3T (rr:=rr) fun x hx=>h x (by simp [hx])
   refine ⟨o::l,rfl,?_⟩
   intro x hx
   rcases List.mem_cons.1 hx with rfl | hx
   ·exact hn
   ·exact hl x hx
def a7l (c:Cl):Prop:=c.small∧(∀ o ∈ c.B2,o.n<9223372036854775808)∧a3c (j8 c)
theorem b0t {l:List Ob} (h:l.length≤1000) (hn:∀ o ∈ l,o.n<9223372036854775808):SlR (.sl 7 (l.map i4)) l.length:=.inr ⟨_,rfl,by simp,h,fun x hx=>by
 obtain ⟨o,ho,rfl⟩:=List.mem_map.1 hx
 exact ⟨_,_,_,_,_,_,_,hn o ho,rfl⟩⟩
theorem a7l.shape {c:Cl} (h:a7l c):(c.kind=1→c.items=[]∧c.bytes.length≤1000)∧(c.kind=2→c.bytes=[]∧c.items.length≤1000):=by
 obtain ⟨-, -,k,b,q1,q2,q3,mx,a,m1,m2,m3,he,hb,h1,h2,h3⟩:=h
 simp only [j8,List.cons.injEq,PV.int.injEq,PV.str.injEq,true_and] at he
 obtain ⟨e1,e2,e3, -⟩:=he
 subst e1 e2 e3
 rcases h1 with ⟨h1, -⟩ | ⟨rr,h1,hl,hm, -⟩
 ·cases h1
 ·simp only [PV.sl.injEq,true_and] at h1
  subst h1
  simp only [List.length_map] at hl
  subst hl
  exact ⟨fun hk=>⟨List.eq_nil_of_length_eq_zero (hb.2.1 hk).2,(hb.2.1 hk).1⟩,fun hk=>⟨hb.2.2 hk,hm⟩⟩
def dct (k v:List Ob) (m:Int):Cl:=⟨3,[],[],k,v,m,0⟩
def opO (s:List UInt8):Ob:=⟨10,true,0,s,0,0,0⟩
def dO (n:Int):Ob:=⟨9,false,0,[],n,0,0⟩
def b4e:Cl:=dct (b6t.map nmO) [dO 5,dO 6,dO 7,dO 8,dO 9] 5
def a1w:List Cl:=[dct [nmO b3j,nmO b3k] [opO b3j,opO b3k] 200,dct [] [] 50,dct [] [] 30,dct [] [] 12,b4e,dct [] [] 10,dct [] [] 10,dct [] [] 10,dct [] [] 10,dct [] [] 10]
theorem b5g (m:Int):E6 (R3 (.emp 7) (.emp 7) m) (j8 (dct [] [] m)):=.cons (.refl _) (.cons (.refl _) (.cons (.emp 7) (.cons (.emp 7) (.cons (.emp 7) (.refl _)))))
theorem c5x (k v:List Ob) (m:Int):E6 (R3 (.sl 7 (k.map i4)) (.sl 7 (v.map i4)) m) (j8 (dct k v m)):=.cons (.refl _) (.cons (.refl _) (.cons (.emp 7) (.refl _)))
theorem c0f:LeR Z1 (a1w.map j8):=
 .cons (c5x [nmO b3j,nmO b3k] [opO b3j,opO b3k] 200) (.cons (b5g 50) (.cons (b5g 30) (.cons (b5g 12) (.cons (c5x (b6t.map nmO) [dO 5,dO 6,dO 7,dO 8,dO 9] 5)
  (.cons (b5g 10) (.cons (b5g 10) (.cons (b5g 10) (.cons (b5g 10) (.cons (b5g 10) .nil)))))))))
theorem c0g:∀ c ∈ a1w,a7l c:=by
 intro c hc
 simp only [a1w,List.mem_cons,List.not_mem_nil,or_false] at hc
 rcases hc with rfl | rfl | rfl | rfl | rfl | rfl | rfl | rfl | rfl | rfl <;>(refine ⟨⟨by decide,by decide,by decide,by decide⟩,by decide,⟨_,_,_,_,_,_,_,_,_,_,rfl,⟨by decide,by decide,by decide⟩,b0t (by decide) (by decide),b0t (by decide) (by decide),b0t (by decide) (by decide)⟩⟩)
def a2t (h:List Cl):Prop:=∃ more,h=a1w++more∧more.length≤10∧∀ c ∈ h,a7l c
theorem a2t.rows {h:List Cl} (t:a2t h):(∀ r ∈ h.map j8,a3c r)∧(h.map j8).length≤1000000:=by
 obtain ⟨more,rfl,hm,hall⟩:=t
 refine ⟨fun r hr=>?_,by simp [a1w];omega⟩
 obtain ⟨c,hc,rfl⟩:=List.mem_map.1 hr
 exact (hall c hc).2.2
theorem a2t.small {h:List Cl} (t:a2t h):small h:=by
 obtain ⟨more,rfl,hm,hall⟩:=t
 exact ⟨by simp [a1w];omega,fun c hc=>(hall c hc).1⟩
def mkS (ops d5:List Ob) (heap:List Cl):B8:=⟨ops,d5,heap,[],0,0,0,0,0,0,0,[],0,0,0,0,0,0,0,0,0,0,0,0,0,0,0,0,0,0,0,0,false,false,[],0,0,0,0,0,0,0,0,[],0,0,[],0,false,0,[],0,0,0,0,0,0,0,0,0,0,0,[],[],[],[],1⟩
def b9M (s:B8):Prop:=∃ ops d5 heap,s=mkS ops d5 heap∧a2t heap∧ops.length≤20∧(∀ o ∈ ops,o.n<9223372036854775808)∧2≤d5.length∧d5.length≤6∧∀ o ∈ d5,∃ j:Int,o=dO j∧0≤j∧j<heap.length
theorem b9M.nOk {s:B8} (h:b9M s) (l:List Ob) (hl:l.length≤1000) (hn:∀ o ∈ l,o.n<9223372036854775808):Go.Ab.nOk {s with ops:=l}:=by
 obtain ⟨ops,d5,heap,rfl,ht,_⟩:=h
 have hsm:=ht.small
 obtain ⟨more,rfl,hm,hall⟩:=ht
 exact ⟨hsm,by show l.length≤1000000;omega,hn,fun c hc=>(hall c hc).2.1⟩
end Go.Ab.Td

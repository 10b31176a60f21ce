/- A part of the proof: the texts TdTy. Under: nothing. -/
import Derived.Test.YtomfaadmmchdcaaGreatDoorG20
set_option linter.unusedVariables false
namespace Go.Ab.Td
set_option maxRecDepth 100000
set_option maxRecDepth 100000
open Go Go.Ab
variable {P:Program}
theorem c2J {g:Nat} {ps:List PV} {p r:PV} (h:l3 P G g ps [] p) (hl:PV.le p r):l3 P G g ps [] r:=by
 intro w I vs hb hg ha
 obtain ⟨h1,h2⟩:=h w I vs hb hg ha
 refine ⟨h1,CallsIn.mono h2 fun e w' he=>?_⟩
 cases e with
 | returned v=>
   obtain ⟨I',a,b,c,d⟩:=he
   refine ⟨I',a,b,c,fun nm=>?_⟩
   obtain ⟨ι,e1,e2⟩:=d nm
   cases e2 with
   | pv hp=>exact ⟨ι,e1,.pv (hp.le hl)⟩
 | _=>exact he.elim
theorem c7L {r:List PV} (h:a3A r):∃ o:Ob,r=i4 o∧o.n<9223372036854775808:=by
 obtain ⟨k,e,n,s,rf,o,l,hn,rfl⟩:=h
 exact ⟨⟨k,e,n,s,rf,o,l⟩,rfl,hn⟩
theorem c3T:∀ {rr:List (List PV)},(∀ x ∈ rr,a3A x)→∃ l:List Ob,rr=l.map i4∧∀ o ∈ l,o.n<9223372036854775808
 | [],_=>⟨[],rfl,by simp⟩
 | r::rr,h=>by
   obtain ⟨o,rfl,hn⟩:=c7L (h r (by simp))
   obtain ⟨l,rfl,hl⟩:=c3T (rr:=rr) fun x hx=>h x (by simp [hx])
   refine ⟨o::l,rfl,?_⟩
   intro x hx
   rcases List.mem_cons.1 hx with rfl | hx
   ·exact hn
   ·exact hl x hx
def a7l (c:Cl):Prop:=c.small∧(∀ o ∈ c.B2,o.n<9223372036854775808)∧a3c (j8 c)
theorem b0t {l:List Ob} (h:l.length≤1000) (hn:∀ o ∈ l,o.n<9223372036854775808):SlR (.sl 7 (l.map i4)) l.length:=.inr ⟨_,rfl,by simp,h,fun x hx=>by
 obtain ⟨o,ho,rfl⟩:=List.mem_map.1 hx
 exact ⟨_,_,_,_,_,_,_,hn o ho,rfl⟩⟩
theorem a7l.shape {c:Cl} (h:a7l c):(c.kind=1→c.items=[]∧c.bytes.length≤1000)∧(c.kind=2→c.bytes=[]∧c.items.length≤1000):=by
 obtain ⟨-, -,k,b,q1,q2,q3,mx,a,m1,m2,m3,he,hb,h1,h2,h3⟩:=h
 simp only [j8,List.cons.injEq,PV.int.injEq,PV.str.injEq,true_and] at he
 obtain ⟨e1,e2,e3, -⟩:=he
 subst e1 e2 e3
 rcases h1 with ⟨h1, -⟩ | ⟨rr,h1,hl,hm, -⟩
 ·cases h1
 ·simp only [PV.sl.injEq,true_and] at h1
  subst h1
  simp only [List.length_map] at hl
  subst hl
  exact ⟨fun hk=>⟨List.eq_nil_of_length_eq_zero (hb.2.1 hk).2,(hb.2.1 hk).1⟩,fun hk=>⟨hb.2.2 hk,hm⟩⟩
def dct (k v:List Ob) (m:Int):Cl:=⟨3,[],[],k,v,m,0⟩
def opO (s:List UInt8):Ob:=⟨10,true,0,s,0,0,0⟩
def dO (n:Int):Ob:=⟨9,false,0,[],n,0,0⟩
def b4e:Cl:=dct (b6t.map nmO) [dO 5,dO 6,dO 7,dO 8,dO 9] 5
def a1w:List Cl:=[dct [nmO b3j,nmO b3k] [opO b3j,opO b3k] 200,dct [] [] 50,dct [] [] 30,dct [] [] 12,b4e,dct [] [] 10,dct [] [] 10,dct [] [] 10,dct [] [] 10,dct [] [] 10]
theorem b5g (m:Int):E6 (R3 (.emp 7) (.emp 7) m) (j8 (dct [] [] m)):=.cons (.refl _) (.cons (.refl _) (.cons (.emp 7) (.cons (.emp 7) (.cons (.emp 7) (.refl _)))))
theorem c5x (k v:List Ob) (m:Int):E6 (R3 (.sl 7 (k.map i4)) (.sl 7 (v.map i4)) m) (j8 (dct k v m)):=.cons (.refl _) (.cons (.refl _) (.cons (.emp 7) (.refl _)))
theorem c0f:LeR Z1 (a1w.map j8):=
 .cons (c5x [nmO b3j,nmO b3k] [opO b3j,opO b3k] 200) (.cons (b5g 50) (.cons (b5g 30) (.cons (b5g 12) (.cons (c5x (b6t.map nmO) [dO 5,dO 6,dO 7,dO 8,dO 9] 5)
  (.cons (b5g 10) (.cons (b5g 10) (.cons (b5g 10) (.cons (b5g 10) (.cons (b5g 10) .nil)))))))))
theorem c0g:∀ c ∈ a1w,a7l c:=by
 intro c hc
 simp only [a1w,List.mem_cons,List.not_mem_nil,or_false] at hc
 rcases hc with rfl | rfl | rfl | rfl | rfl | rfl | rfl | rfl | rfl | rfl <;>(refine ⟨⟨by decide,by decide,by decide,by decide⟩,by decide,⟨_,_,_,_,_,_,_,_,_,_,rfl,⟨by decide,by decide,by decide⟩,b0t (by decide) (by decide),b0t (by decide) (by decide),b0t (by decide) (by decide)⟩⟩)
def a2t (h:List Cl):Prop:=∃ more,h=a1w++more∧more.length≤10∧∀ c ∈ h,a7l c
theorem a2t.rows {h:List Cl} (t:a2t h):(∀ r ∈ h.map j8,a3c r)∧(h.map j8).length≤1000000:=by
 obtain ⟨more,rfl,hm,hall⟩:=t
 refine ⟨fun r hr=>?_,by simp [a1w];omega⟩
 obtain ⟨c,hc,rfl⟩:=List.mem_map.1 hr
 exact (hall c hc).2.2
theorem a2t.small {h:List Cl} (t:a2t h):small h:=by
 obtain ⟨more,rfl,hm,hall⟩:=t
 exact ⟨by simp [a1w];omega,fun c hc=>(hall c hc).1⟩
def mkS (ops d5:List Ob) (heap:List Cl):B8:=⟨ops,d5,heap,[],0,0,0,0,0,0,0,[],0,0,0,0,0,0,0,0,0,0,0,0,0,0,0,0,0,0,0,0,false,false,[],0,0,0,0,0,0,0,0,[],0,0,[],0,false,0,[],0,0,0,0,0,0,0,0,0,0,0,[],[],[],[],1⟩
def b9M (s:B8):Prop:=∃ ops d5 heap,s=mkS ops d5 heap∧a2t heap∧ops.length≤20∧(∀ o ∈ ops,o.n<9223372036854775808)∧2≤d5.length∧d5.length≤6∧∀ o ∈ d5,∃ j:Int,o=dO j∧0≤j∧j<heap.length
theorem b9M.nOk {s:B8} (h:b9M s) (l:List Ob) (hl:l.length≤1000) (hn:∀ o ∈ l,o.n<9223372036854775808):Go.Ab.nOk {s with ops:=l}:=by
 obtain ⟨ops,d5,heap,rfl,ht,_⟩:=h
 have hsm:=ht.small
 obtain ⟨more,rfl,hm,hall⟩:=ht
 exact ⟨hsm,by show l.length≤1000000;omega,hn,fun c hc=>(hall c hc).2.1⟩
end Go.Ab.Td

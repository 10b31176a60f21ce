/- A part of the proof: the texts TdTy. Under: nothing. -/
import Derived.Test.YtngmifmcohmfmaaDoorG23
set_option linter.unusedVariables false
namespace Go.Ab.Td
set_option maxRecDepth 100000
set_option maxRecDepth 100000
open Go Go.Ab
variable {P:Program}
theorem c0J {g:Nat} {ps:List PV} {p r:PV} (h:j4 P G g ps [] p) (hl:PV.le p r):j4 P G g ps [] r:=by
 intro w I vs hb hg ha
 obtain ⟨h1,h2⟩:=h w I vs hb hg ha
 refine ⟨h1,CallsIn.mono h2 fun e w' he=>?_⟩
 cases e with
 | returned v=>
   obtain ⟨I',a,b,c,d⟩:=he
   refine ⟨I',a,b,c,fun nm=>?_⟩
   obtain ⟨ι,e1,e2⟩:=d nm
   cases e2 with
   | pv hp=>exact ⟨ι,e1,.pv (hp.le hl)⟩
 | _=>exact he.elim
theorem c9V {r:List PV} (h:a3u r):∃ o:Ob,r=i4 o∧o.n<9223372036854775808:=by
 obtain ⟨k,e,n,s,rf,o,l,hn,rfl⟩:=h
 exact ⟨⟨k,e,n,s,rf,o,l⟩,rfl,hn⟩
theorem c6p:∀ {rr:List (List PV)},(∀ x ∈ rr,a3u x)→∃ l:List Ob,rr=l.map i4∧∀ o ∈ l,o.n<9223372036854775808
 | [],_=>⟨[],rfl,by simp⟩
 | r::rr,h=>by
   obtain ⟨o,rfl,hn⟩:=c9V (h r (by simp))
   obtain ⟨l,rfl,hl⟩:=c6p (rr:=rr) fun x hx=>h x (by simp [hx])
   refine ⟨o::l,rfl,?_⟩
   intro x hx
   rcases List.mem_cons.1 hx with rfl | hx
   ·exact hn
   ·exact hl x hx
def a7Z (c:Cl):Prop:=c.small∧(∀ o ∈ c.x7,o.n<9223372036854775808)∧a3r (j8 c)
theorem b1p {l:List Ob} (h:l.length≤1000) (hn:∀ o ∈ l,o.n<9223372036854775808):SlR (.sl 7 (l.map i4)) l.length:=.inr ⟨_,rfl,by simp,h,fun x hx=>by
 obtain ⟨o,ho,rfl⟩:=List.mem_map.1 hx
 exact ⟨_,_,_,_,_,_,_,hn o ho,rfl⟩⟩
theorem a7Z.shape {c:Cl} (h:a7Z c):(c.kind=1→c.items=[]∧c.bytes.length≤1000)∧(c.kind=2→c.bytes=[]∧c.items.length≤1000):=by
 obtain ⟨-, -,k,b,q1,q2,q3,mx,a,m1,m2,m3,he,hb,h1,h2,h3⟩:=h
 simp only [j8,List.cons.injEq,PV.int.injEq,PV.str.injEq,true_and] at he
 obtain ⟨e1,e2,e3, -⟩:=he
 subst e1 e2 e3
 rcases h1 with ⟨h1, -⟩ | ⟨rr,h1,hl,hm, -⟩
 ·cases h1
 ·simp only [PV.sl.injEq,true_and] at h1
  subst h1
  simp only [List.length_map] at hl
  subst hl
  exact ⟨fun hk=>⟨List.eq_nil_of_length_eq_zero (hb.2.1 hk).2,(hb.2.1 hk).1⟩,fun hk=>⟨hb.2.2 hk,hm⟩⟩
def dct (k v:List Ob) (m:Int):Cl:=⟨3,[],[],k,v,m,0⟩
def opO (s:List UInt8):Ob:=⟨10,true,0,s,0,0,0⟩
def dO (n:Int):Ob:=⟨9,false,0,[],n,0,0⟩
def c6K:Cl:=dct (b8K.map nmO) [dO 5,dO 6,dO 7,dO 8,dO 9] 5
def a1B:List Cl:=[dct [nmO b4W,nmO b4X] [opO b4W,opO b4X] 200,dct [] [] 50,dct [] [] 30,dct [] [] 12,c6K,dct [] [] 10,dct [] [] 10,dct [] [] 10,dct [] [] 10,dct [] [] 10]
theorem b7v (m:Int):I3 (T7 (.emp 7) (.emp 7) m) (j8 (dct [] [] m)):=.cons (.refl _) (.cons (.refl _) (.cons (.emp 7) (.cons (.emp 7) (.cons (.emp 7) (.refl _)))))
theorem c7T (k v:List Ob) (m:Int):I3 (T7 (.sl 7 (k.map i4)) (.sl 7 (v.map i4)) m) (j8 (dct k v m)):=.cons (.refl _) (.cons (.refl _) (.cons (.emp 7) (.refl _)))
theorem c3e:LeR a0d (a1B.map j8):=
 .cons (c7T [nmO b4W,nmO b4X] [opO b4W,opO b4X] 200) (.cons (b7v 50) (.cons (b7v 30) (.cons (b7v 12) (.cons (c7T (b8K.map nmO) [dO 5,dO 6,dO 7,dO 8,dO 9] 5)
  (.cons (b7v 10) (.cons (b7v 10) (.cons (b7v 10) (.cons (b7v 10) (.cons (b7v 10) .nil)))))))))
theorem c3f:∀ c ∈ a1B,a7Z c:=by
 intro c hc
 simp only [a1B,List.mem_cons,List.not_mem_nil,or_false] at hc
 rcases hc with rfl | rfl | rfl | rfl | rfl | rfl | rfl | rfl | rfl | rfl <;>(refine ⟨⟨by decide,by decide,by decide,by decide⟩,by decide,⟨_,_,_,_,_,_,_,_,_,_,rfl,⟨by decide,by decide,by decide⟩,b1p (by decide) (by decide),b1p (by decide) (by decide),b1p (by decide) (by decide)⟩⟩)
def a2E (h:List Cl):Prop:=∃ more,h=a1B++more∧more.length≤10∧∀ c ∈ h,a7Z c
theorem a2E.rows {h:List Cl} (t:a2E h):(∀ r ∈ h.map j8,a3r r)∧(h.map j8).length≤1000000:=by
 obtain ⟨more,rfl,hm,hall⟩:=t
 refine ⟨fun r hr=>?_,by simp [a1B];omega⟩
 obtain ⟨c,hc,rfl⟩:=List.mem_map.1 hr
 exact (hall c hc).2.2
theorem a2E.small {h:List Cl} (t:a2E h):small h:=by
 obtain ⟨more,rfl,hm,hall⟩:=t
 exact ⟨by simp [a1B];omega,fun c hc=>(hall c hc).1⟩
def mkS (ops e6:List Ob) (heap:List Cl):v9:=⟨ops,e6,heap,[],0,0,0,0,0,0,0,[],0,0,0,0,0,0,0,0,0,0,0,0,0,0,0,0,0,0,0,0,false,false,[],0,0,0,0,0,0,0,0,[],0,0,[],0,false,0,[],0,0,0,0,0,0,0,0,0,0,0,[],[],[],[],1⟩
def c4R (s:v9):Prop:=∃ ops e6 heap,s=mkS ops e6 heap∧a2E heap∧ops.length≤20∧(∀ o ∈ ops,o.n<9223372036854775808)∧2≤e6.length∧e6.length≤6∧∀ o ∈ e6,∃ j:Int,o=dO j∧0≤j∧j<heap.length
end Go.Ab.Td
